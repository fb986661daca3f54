import PyProof.Rows.All
import HandS.ForMost
import HandS.TupSets
import HandS.SortRule
import HandS.Exc
import HandS.CallSlots
import HandS.IsInst
import HandS.TupAny
import HandS.TupMul
import HandS.SortInts
import HandS.Flow
import HandS.Deep
import KE.KSortedM
import HandS.ExcOwn
import HandS.Star
import HandS.Zip
import HandS.SetFor
import HandS.Strs
import HandS.RepeatKit
import PyProof.WalksMore
import HandS.Lambda
import HandS.Conv
import HandS.Zip0
import KE.KItemsList
import HandS.ListItems
import HandS.WordsExc
import HandS.Defaults
import KE.KStateDown
import Lean
import HandS.Base
import HandS.Call
import HandS.Ends
import HandS.More
import HandS.Head0
import HandS.Head1
import HandS.Head2
import HandS.HeadEnd
import HandS.HeadHook1
import HandS.HeadHook2
import HandS.HeadHook4
import PySem.Challenge.RW_endlessfingers_k01_whole_lassos_counted
section
set_option Elab.async false
set_option linter.all false
namespace Pv
open PySem

/-- a value as a tree; ref: an object of the small heap; fl: a list that nobody writes -/
inductive T where
  | non | bl (b : Bool) | int (i : Int) | str (x : Str) | tup (ts : List T) | fl (ts : List T) | ref (i : Nat) | fn (x : Str) | ty (n : String)
deriving Inhabited
inductive Ob where
  | lst (ts : List T)
deriving Inhabited
def Ob.items : Ob → List T
  | .lst ts => ts
structure Hd where
  next : Nat
  obs : List (Nat × Ob)
deriving Inhabited
def look : List (Nat × Ob) → Nat → Option Ob
  | [], _ => none
  | (j, o) :: r, i => if j = i then some o else look r i
def store : List (Nat × Ob) → Nat → Ob → List (Nat × Ob)
  | [], _, _ => []
  | (j, o) :: r, i, u => if j = i then (j, u) :: r else (j, o) :: store r i u
def Hd.get (h : Hd) (i : Nat) : Option Ob := look h.obs i
def Hd.put (h : Hd) (i : Nat) (o : Ob) : Hd := ⟨h.next, store h.obs i o⟩
def Hd.new (h : Hd) (o : Ob) : Hd := ⟨h.next + 1, (h.next, o) :: h.obs⟩
/-- a value; l: a list just made that nothing else knows -/
inductive VV where
  | v (t : T) | l (ts : List T)
deriving Inhabited
inductive Res (α : Type) where
  | ok (a : α) (h : Hd) | err (c : Str) (p : Option T) (h : Hd) | fail
abbrev En := List (Option T)
inductive RS where
  | nx (ρ : En) (h : Hd) | rt (t : T) (h : Hd) | bk (ρ : En) (h : Hd) | ct (ρ : En) (h : Hd) | err (c : Str) (p : Option T) (ρ : En) (h : Hd) | fail

def Res.bind {α β : Type} (r : Res α) (f : α → Hd → Res β) : Res β := match r with
  | .ok a h => f a h
  | .err c p h => .err c p h
  | .fail => .fail
def Res.bindS {α : Type} (r : Res α) (ρ : En) (f : α → Hd → RS) : RS := match r with
  | .ok a h => f a h
  | .err c p h => .err c p ρ h
  | .fail => .fail
def Res.of {α : Type} (o : Option α) (h : Hd) : Res α := match o with
  | some a => .ok a h
  | none => .fail

mutual
def T.pure : T → Bool
  | .tup ts => T.pures ts
  | .fl ts => T.pures ts
  | .ref _ => false
  | _ => true
def T.pures : List T → Bool
  | [] => true
  | t :: ts => t.pure && T.pures ts
end
def alloc : VV → Hd → T × Hd
  | .v t, h => (t, h)
  | .l ts, h => (.ref h.next, h.new (.lst ts))

/-! ### the small language -/
inductive Bop where | add | sub | mul | fdiv | mod | pow
inductive Cop where | eq | ne | lt | le | gt | ge | isin | notin
inductive F1 where | len | abs | int | tuple | list | all | any | sum | sorted | max | min
inductive F2 where | max | min
inductive Mt where | append | extend | pop
mutual
inductive Tg where
  | nm (i : Nat) | tp (ts : Tgs)
inductive Tgs where
  | nil | cons (t : Tg) (ts : Tgs)
end
mutual
inductive E where
  | slot (i : Nat) | non | bl (b : Bool) | int (i : Int) | str (x : Str) | glob (x : Str)
  | tup (es : Es) | lst (es : Es)
  | bin (o : Bop) (a b : E) | cmp (o : Cop) (a b : E) | chain (o p : Cop) (a b c : E) | isN (a : E) | notN (a : E)
  | and (a b : E) | or (a b : E) | not (a : E) | neg (a : E) | ite (c a b : E)
  | call (f : Str) (es : Es) | f1 (f : F1) (a : E) | f2 (f : F2) (a b : E) | isi (a : E) (tys : List String)
  | ix (a i : E) | slAll (a : E) | slL (a l : E) | slU (a u : E) | slLU (a l u : E)
  | meth0 (m : Mt) (a : E) | meth1 (m : Mt) (a b : E)
  | lc (elt : E) (tg : Tg) (it : It) (cond : Es) (vs : List Nat)
  | lsR1 (a : E) | lsR2 (a b : E) | lsZ (a b : E) | srtSet (a : E)
inductive Es where
  | nil | cons (e : E) (es : Es) | star (e : E) (es : Es)
inductive It where
  | seq (e : E) | rng1 (a : E) | rng2 (a b : E) | enum (a : E) | zip (a b : E)
end
inductive BI where
  | tp (ts : List T) | kl (ts : List T) | tl (ts : List T) | lv (i : Nat)
inductive ItV where
  | one (b : BI) | enum (b : BI) | zip (a b : BI) | rng (lo : Int) (n : Nat)
mutual
inductive S where
  | expr (e : E) | asg (tg : Tg) (e : E) | par (i j : Nat) (a b : E) | setix (o i e : E) | ret (e : E) | retN
  | ite (c : E) (a b : Ss) | whl (c : E) (b : Ss) | fr (tg : Tg) (it : It) (b : Ss) | pass | brk | cont | never
inductive Ss where
  | nil | cons (s : S) (ss : Ss)
end

/-! ### operations -/
def lim : Nat := 16777216
/-! the data of a tree; f: what an object holds -/
mutual
def T.dat (f : Nat → Option PyData) : T → Option PyData
  | .non => some .none
  | .bl b => some (.bool b)
  | .int i => some (.int i)
  | .str x => some (.str x)
  | .tup ts => (T.dats f ts).map .tuple
  | .fl ts => (T.dats f ts).map .list
  | .ref i => f i
  | _ => none
def T.dats (f : Nat → Option PyData) : List T → Option (List PyData)
  | [] => some []
  | t :: ts => match t.dat f, T.dats f ts with
    | some d, some ds => some (d :: ds)
    | _, _ => none
end
def refD (h : Hd) : Nat → Nat → Option PyData
  | 0, _ => none
  | n + 1, i => match h.get i with
    | some o => (T.dats (refD h n) o.items).map .list
    | none => none
def dat (h : Hd) : VV → Option PyData
  | .v t => t.dat (refD h 6)
  | .l ts => (T.dats (refD h 6) ts).map .list
/-- a sequence's items: a list (true) or a tuple -/
def items (h : Hd) : VV → Option (Bool × List T)
  | .v (.tup ts) => some (false, ts)
  | .v (.fl ts) => some (true, ts)
  | .v (.ref i) => match h.get i with
    | some o => some (true, o.items)
    | none => none
  | .l ts => some (true, ts)
  | _ => none
/-- a list that may be written, or one just made -/
def itemsM (h : Hd) : VV → Option (List T)
  | .v (.ref i) => match h.get i with
    | some (.lst ts) => some ts
    | _ => none
  | .l ts => some ts
  | _ => none
def truth (h : Hd) : VV → Option Bool
  | .v .non => some false
  | .v (.bl b) => some b
  | .v (.int i) => some (i != 0)
  | x => (items h x).map fun p => !p.2.isEmpty
def smallI (i : Int) : Bool := decide (-18446744073709551616 < i) && decide (i < 18446744073709551616)
def isNon : VV → Bool
  | .v .non => true
  | _ => false
def intOf : VV → Option Int
  | .v (.int i) => some i
  | _ => none
def tupOf : VV → Option (List T)
  | .v (.tup ts) => some ts
  | _ => none
def few {α : Type} (ts : List T) (a : α) : Option α := if ts.length ≤ lim then some a else none
def binI : Bop → Int → Int → Option Int
  | .add, i, j => some (i + j)
  | .sub, i, j => some (i - j)
  | .mul, i, j => if smallI i || smallI j then some (i * j) else none
  | .fdiv, i, j => if decide (0 < j) && decide (j < 1073741824) then some (i / j) else none
  | .mod, i, j => if 0 < j then some (i % j) else none
  | .pow, i, j => if decide (0 ≤ j) && decide (j ≤ 1000000) && decide (i.natAbs < 2 ^ 64) then some (i ^ j.toNat) else none
def cat (xs ys : List T) : Option (List T) := if xs.length + ys.length ≤ lim then some (xs ++ ys) else none
def repT (xs : List T) (k : Int) : Option (List T) := if decide (1 ≤ k) && decide (k ≤ 1000) && decide (xs.length ≤ 1000) && !xs.isEmpty then some (List.replicate k.toNat xs).flatten else none
def opB (o : Bop) (h : Hd) (x y : VV) : Option VV := match x, y with
  | .v (.int i), .v (.int j) => (binI o i j).map fun k => .v (.int k)
  | .v (.tup xs), .v (.tup ys) => match o with
    | .add => (cat xs ys).map fun z => .v (.tup z)
    | _ => none
  | .v (.tup xs), .v (.int k) => match o with
    | .mul => (repT xs k).map fun z => .v (.tup z)
    | _ => none
  | x, y => match o, itemsM h x, itemsM h y with
    | .add, some xs, some ys => (cat xs ys).map .l
    | _, _, _ => none
def cmpI : Cop → Int → Int → Option Bool
  | .lt, i, j => some (decide (i < j))
  | .le, i, j => some (decide (i ≤ j))
  | .gt, i, j => some (decide (j < i))
  | .ge, i, j => some (decide (j ≤ i))
  | _, _, _ => none
def eqD (h : Hd) (x y : VV) : Option Bool := match dat h x, dat h y with
  | some d, some e => if SeqAt.shaped d && SeqAt.shaped e then some (PyData.eqv d e) else none
  | _, _ => none
def inD (h : Hd) (x y : VV) : Option Bool := match dat h x, items h y with
  | some d, some (_, ts) => match T.dats (refD h 6) ts with
    | some ds => if SeqAt.shaped d && SeqAt.shaped (.list ds) then some (ds.any fun z => PyData.eqv z d) else none
    | none => none
  | _, _ => none
def twoI : VV → VV → Option (Int × Int)
  | .v (.int i), .v (.int j) => some (i, j)
  | _, _ => none
def opC (o : Cop) (h : Hd) (x y : VV) : Option Bool := match o with
  | .eq => eqD h x y
  | .ne => (eqD h x y).map not
  | .isin => inD h x y
  | .notin => (inD h x y).map not
  | o => match twoI x y with
    | some (i, j) => cmpI o i j
    | none => none
def opIx (h : Hd) (x y : VV) : Option VV := match items h x, y with
  | some (_, xs), .v (.int i) => (L2.atI xs i).map .v
  | _, _ => none
def cut (xs : List T) (lo hi : Option Int) : List T := (xs.drop (HT.sIx xs.length 0 lo)).take (HT.sIx xs.length xs.length hi - HT.sIx xs.length 0 lo)
def opSl (h : Hd) (x : VV) (lo hi : Option Int) : Option VV := (items h x).map fun p => if p.1 then .l (cut p.2 lo hi) else .v (.tup (cut p.2 lo hi))
def intsT : List T → Option (List Int)
  | [] => some []
  | .int i :: ts => (intsT ts).map (i :: ·)
  | _ => none
def bls : List T → Option (List Bool)
  | [] => some []
  | .bl i :: ts => (bls ts).map (i :: ·)
  | _ => none
def insI (x : Int) : List Int → List Int
  | [] => [x]
  | y :: ys => if x ≤ y then x :: y :: ys else y :: insI x ys
def sortI : List Int → List Int
  | [] => []
  | x :: xs => insI x (sortI xs)
def lexL : List Int → List Int → Bool
  | _, [] => false
  | [], _ :: _ => true
  | x :: a, y :: b => if x = y then lexL a b else decide (x < y)
def insL (x : List Int) : List (List Int) → List (List Int)
  | [] => [x]
  | y :: l => if lexL y x then y :: insL x l else x :: y :: l
def sortL : List (List Int) → List (List Int)
  | [] => []
  | x :: l => insL x (sortL l)
/-- rows of ints, none of them empty -/
def tupsT : List T → Option (List (List Int))
  | [] => some []
  | .tup us :: ts => match intsT us, tupsT ts with
    | some (n :: ns), some l => some ((n :: ns) :: l)
    | _, _ => none
  | _ => none
def dedI : List Int → List Int
  | [] => []
  | x :: l => if x ∈ l then dedI l else x :: dedI l
def sumI : List Int → Int
  | [] => 0
  | x :: xs => x + sumI xs
def absV : VV → Option VV
  | .v (.int i) => some (.v (.int (if i < 0 then -i else i)))
  | _ => none
def intV : VV → Option VV
  | .v (.int i) => some (.v (.int i))
  | .v (.bl b) => some (.v (.int (if b then 1 else 0)))
  | _ => none
def op1 (f : F1) (h : Hd) (x : VV) : Option VV := match f with
  | .len => (items h x).map fun p => .v (.int p.2.length)
  | .abs => absV x
  | .int => intV x
  | .tuple => (items h x).map fun p => .v (.tup p.2)
  | .list => (items h x).map fun p => .l p.2
  | .all => match items h x with
    | some (true, ts) => (bls ts).map fun bs => .v (.bl (bs.all id))
    | _ => none
  | .any => match items h x with
    | some (true, ts) => (bls ts).map fun bs => .v (.bl (bs.any id))
    | _ => none
  | .sum => match items h x with
    | some (true, ts) => (intsT ts).map fun ns => .v (.int (sumI ns))
    | _ => none
  | .sorted => match items h x with
    | some (true, ts) => match intsT ts with
      | some ns => some (.l ((sortI ns).map .int))
      | none => (tupsT ts).map fun l => .l ((sortL l).map fun r => .tup (r.map .int))
    | _ => none
  | _ => none
def op2 (f : F2) (x y : VV) : Option VV := match x, y with
  | .v (.int i), .v (.int j) => match f with
    | .max => some (.v (.int (if j > i then j else i)))
    | .min => some (.v (.int (if j < i then j else i)))
  | _, _ => none
def tyOf (h : Hd) : VV → Option String
  | .v .non => some "NoneType"
  | .v (.bl _) => some "bool"
  | .v (.int _) => some "int"
  | .v (.str _) => some "str"
  | .v (.tup _) => some "tuple"
  | .v (.fl _) => some "list"
  | .v (.ref i) => match h.get i with
    | some _ => some "list"
    | none => none
  | .l _ => some "list"
  | _ => none
def isTy (a b : String) : Bool := a == b || (a == "bool" && b == "int")
def opIsi (h : Hd) (x : VV) (tys : List String) : Option Bool := (tyOf h x).map fun a => tys.any fun b => isTy a b

mutual
def bindT : Tg → T → En → Option En
  | .nm i, t, ρ => some (ρ.set i (some t))
  | .tp gs, .tup ts, ρ => bindTs gs ts ρ
  | _, _, _ => none
def bindTs : Tgs → List T → En → Option En
  | .nil, [], ρ => some ρ
  | .cons g gs, t :: ts, ρ => match bindT g t ρ with
    | some ρ' => bindTs gs ts ρ'
    | none => none
  | _, _, _ => none
end
def wipe (ρ : En) : List Nat → En
  | [] => ρ
  | v :: vs => (wipe ρ vs).set v none

def BI.at (b : BI) (h : Hd) (n : Nat) : Option (Option T) := match b with
  | .tp ts => some ts[n]?
  | .kl ts => some ts[n]?
  | .tl ts => some ts[n]?
  | .lv i => match h.get i with
    | some o => some o.items[n]?
    | none => none
def ItV.at (v : ItV) (h : Hd) (n : Nat) : Option (Option T) := match v with
  | .one b => b.at h n
  | .enum b => (b.at h n).map fun o => o.map fun t => .tup [.int n, t]
  | .zip a b => match a.at h n, b.at h n with
    | some (some x), some (some y) => some (some (.tup [x, y]))
    | some _, some _ => some none
    | _, _ => none
  | .rng lo k => some (if n < k then some (.int (lo + n)) else none)
def biOf (h : Hd) : VV → Option BI
  | .v (.tup ts) => some (.tp ts)
  | .v (.fl ts) => some (.kl ts)
  | .l ts => some (.tl ts)
  | .v (.ref i) => match h.get i with
    | some _ => some (.lv i)
    | none => none
  | _ => none
def BI.isL : BI → Bool
  | .tp _ => false
  | _ => true
def small62 (i : Int) : Bool := decide (-4611686018427387904 ≤ i) && decide (i < 4611686018427387904)

def rng1 (j : Int) : Option ItV := if small62 j then some (.rng 0 j.toNat) else none
def rng2 (i j : Int) : Option ItV := if small62 i && small62 j then some (.rng i (j - i).toNat) else if decide (9223372036854775808 ≤ i) then some (.rng i (j - i).toNat) else none
def enumI (b : BI) : Option ItV := if b.isL then some (.enum b) else none
def zipI (p q : BI) : Option ItV := if p.isL == q.isL then some (.zip p q) else none
structure Prg where
  call : Str → List T → Hd → Res T
  glob : Str → Option T
  W : Nat

/-- a list comprehension's turns -/
def turns (v : ItV) (body : T → Hd → Res (Option T)) : Nat → Nat → List T → Hd → Res (List T)
  | 0, _, _, _ => .fail
  | k + 1, n, acc, h => match v.at h n with
    | some none => .ok acc h
    | some (some t) => (body t h).bind fun o h' => match o with
      | some y => if acc.length < lim then turns v body k (n + 1) (acc ++ [y]) h' else .fail
      | none => turns v body k (n + 1) acc h'
    | none => .fail
def rgT (lo hi : Int) : List T := (List.range (hi - lo).toNat).map fun i => T.int (lo + (i : Nat))
def rgL (lo hi : Int) : Option VV := if small62 lo && small62 hi && decide ((hi - lo).toNat ≤ lim) then some (.l (rgT lo hi)) else none
def zipT : List T → List T → List T
  | x :: xs, y :: ys => .tup [x, y] :: zipT xs ys
  | _, _ => []
def zipL (h : Hd) (x y : VV) : Option VV := match items h x, items h y with
  | some (false, xs), some (false, ys) => if xs.length ≤ lim then some (.l (zipT xs ys)) else none
  | _, _ => none
/-- sorted(set(a row of ints)) -/
def srtS (h : Hd) (x : VV) : Option VV := match items h x with
  | some (false, ts) => match intsT ts with
    | some ns => if ns.length < 64 then some (.l ((sortI (dedI ns)).map .int)) else none
    | none => none
  | _ => none
/-- within a comprehension nothing may be raised -/
def Res.dead {α : Type} : Res α → Res α
  | .err _ _ _ => .fail
  | r => r
def resV (r : Res VV) : Res T := r.bind fun x h => .ok (alloc x h).1 (alloc x h).2

def pop0 (h : Hd) (x : VV) : Res VV := match x with
  | .v (.ref i) => match h.get i with
    | some (.lst ts) => match ts[ts.length - 1]? with
      | some t => .ok (.v t) (h.put i (.lst ts.dropLast))
      | none => .fail
    | _ => .fail
  | _ => .fail
def put1 (m : Mt) (h : Hd) (i : Nat) (t : T) : Res VV := match h.get i with
  | some (.lst ts) => match m with
    | .append => if ts.length < lim then .ok (.v .non) (h.put i (.lst (ts ++ [t]))) else .fail
    | .pop => match t with
      | .int k => if decide (0 ≤ k) && decide (k < ts.length) && small62 k then match ts[k.toNat]? with
        | some y => .ok (.v y) (h.put i (.lst (ts.eraseIdx k.toNat)))
        | none => .fail
        else .fail
      | _ => .fail
    | .extend => match t with
      | .ref j => match h.get j with
        | some (.lst us) => if ts.length + us.length ≤ lim then .ok (.v .non) (h.put i (.lst (ts ++ us))) else .fail
        | _ => .fail
      | _ => .fail
  | _ => .fail
mutual
def evE (P : Prg) : E → En → Hd → Res VV
  | .slot i, ρ, h => match ρ[i]? with
    | some (some t) => .ok (.v t) h
    | _ => .fail
  | .non, _, h => .ok (.v .non) h
  | .bl b, _, h => .ok (.v (.bl b)) h
  | .int i, _, h => .ok (.v (.int i)) h
  | .str x, _, h => .ok (.v (.str x)) h
  | .glob x, _, h => .of ((P.glob x).map .v) h
  | .tup es, ρ, h => (evEs P es ρ h).bind fun ts h => .of (few ts (.v (.tup ts))) h
  | .lst es, ρ, h => (evEs P es ρ h).bind fun ts h => .of (few ts (.l ts)) h
  | .bin o a b, ρ, h => (evE P a ρ h).bind fun x h => (evE P b ρ h).bind fun y h => .of (opB o h x y) h
  | .cmp o a b, ρ, h => (evE P a ρ h).bind fun x h => (evE P b ρ h).bind fun y h => .of ((opC o h x y).map fun b => .v (.bl b)) h
  | .chain o p a b c, ρ, h => (evE P a ρ h).bind fun x h => (evE P b ρ h).bind fun y h => match opC o h x y with
    | some true => (evE P c ρ h).bind fun z h => .of ((opC p h y z).map fun b => .v (.bl b)) h
    | some false => .ok (.v (.bl false)) h
    | none => .fail
  | .isN a, ρ, h => (evE P a ρ h).bind fun x h => .ok (.v (.bl (isNon x))) h
  | .notN a, ρ, h => (evE P a ρ h).bind fun x h => .ok (.v (.bl (!isNon x))) h
  | .and a b, ρ, h => (evE P a ρ h).bind fun x h => match truth h x with
    | some true => evE P b ρ h
    | some false => .ok x h
    | none => .fail
  | .or a b, ρ, h => (evE P a ρ h).bind fun x h => match truth h x with
    | some true => .ok x h
    | some false => evE P b ρ h
    | none => .fail
  | .not a, ρ, h => (evE P a ρ h).bind fun x h => .of ((truth h x).map fun b => .v (.bl (!b))) h
  | .neg a, ρ, h => (evE P a ρ h).bind fun x h => .of ((intOf x).map fun i => .v (.int (-i))) h
  | .ite c a b, ρ, h => (evE P c ρ h).bind fun x h => match truth h x with
    | some true => evE P a ρ h
    | some false => evE P b ρ h
    | none => .fail
  | .call f es, ρ, h => (evEs P es ρ h).bind fun ts h => (P.call f ts h).bind fun t h => .ok (.v t) h
  | .f1 f a, ρ, h => (evE P a ρ h).bind fun x h => .of (op1 f h x) h
  | .f2 f a b, ρ, h => (evE P a ρ h).bind fun x h => (evE P b ρ h).bind fun y h => .of (op2 f x y) h
  | .isi a tys, ρ, h => (evE P a ρ h).bind fun x h => .of ((opIsi h x tys).map fun b => .v (.bl b)) h
  | .ix a i, ρ, h => (evE P a ρ h).bind fun x h => (evE P i ρ h).bind fun y h => .of (opIx h x y) h
  | .slAll a, ρ, h => (evE P a ρ h).bind fun x h => .of (opSl h x none none) h
  | .slL a l, ρ, h => (evE P a ρ h).bind fun x h => (evE P l ρ h).bind fun y h => .of ((intOf y).bind fun i => opSl h x (some i) none) h
  | .slU a u, ρ, h => (evE P a ρ h).bind fun x h => (evE P u ρ h).bind fun y h => .of ((intOf y).bind fun i => opSl h x none (some i)) h
  | .slLU a l u, ρ, h => (evE P a ρ h).bind fun x h => (evE P l ρ h).bind fun y h => match intOf y with
    | some i => (evE P u ρ h).bind fun z h => .of ((intOf z).bind fun j => opSl h x (some i) (some j)) h
    | none => .fail
  | .meth0 m a, ρ, h => (evE P a ρ h).bind fun x h => match m with
    | .pop => pop0 h x
    | _ => .fail
  | .meth1 m a b, ρ, h => (evE P a ρ h).bind fun x h => match x with
    | .v (.ref i) => if (h.get i).isSome then (resV (evE P b ρ h)).bind fun t h => put1 m h i t else .fail
    | _ => .fail
  | .lc elt tg it cond vs, ρ, h => (evI P it ρ h).bind fun v h => (turns v (fun t h => match bindT tg t (wipe ρ vs) with
    | some ρ' => ((evC P cond ρ' h).bind fun b h => if b then (resV (evE P elt ρ' h)).bind fun y h => .ok (some y) h else .ok none h).dead
    | none => .fail) P.W 0 [] h).bind fun ts h => .ok (.l ts) h
  | .lsR1 a, ρ, h => (evE P a ρ h).bind fun x h => .of ((intOf x).bind fun j => rgL 0 j) h
  | .lsR2 a b, ρ, h => (evE P a ρ h).bind fun x h => (evE P b ρ h).bind fun y h => .of ((twoI x y).bind fun p => rgL p.1 p.2) h
  | .lsZ a b, ρ, h => (evE P a ρ h).bind fun x h => (evE P b ρ h).bind fun y h => .of (zipL h x y) h
  | .srtSet a, ρ, h => (evE P a ρ h).bind fun x h => .of (srtS h x) h
def evEs (P : Prg) : Es → En → Hd → Res (List T)
  | .nil, _, h => .ok [] h
  | .cons e es, ρ, h => (resV (evE P e ρ h)).bind fun t h => (evEs P es ρ h).bind fun ts h => .ok (t :: ts) h
  | .star e es, ρ, h => (evE P e ρ h).bind fun x h => match tupOf x with
    | some us => (evEs P es ρ h).bind fun ts h => .ok (us ++ ts) h
    | none => .fail
/-- the tests of a comprehension: all must be so -/
def evC (P : Prg) : Es → En → Hd → Res Bool
  | .nil, _, h => .ok true h
  | .cons e es, ρ, h => (evE P e ρ h).bind fun x h => match truth h x with
    | some true => evC P es ρ h
    | some false => .ok false h
    | none => .fail
  | .star _ _, _, _ => .fail
def evI (P : Prg) : It → En → Hd → Res ItV
  | .seq e, ρ, h => (evE P e ρ h).bind fun x h => .of ((biOf h x).map .one) h
  | .rng1 a, ρ, h => (evE P a ρ h).bind fun x h => .of ((intOf x).bind rng1) h
  | .rng2 a b, ρ, h => (evE P a ρ h).bind fun x h => (evE P b ρ h).bind fun y h => .of ((twoI x y).bind fun p => rng2 p.1 p.2) h
  | .enum a, ρ, h => (evE P a ρ h).bind fun x h => .of ((biOf h x).bind enumI) h
  | .zip a b, ρ, h => (evE P a ρ h).bind fun x h => (evE P b ρ h).bind fun y h => .of ((biOf h x).bind fun p => (biOf h y).bind fun q => zipI p q) h
end

/-! ### statements -/
def whileN (test : En → Hd → Res Bool) (body : En → Hd → RS) : Nat → En → Hd → RS
  | 0, _, _ => .fail
  | k + 1, ρ, h => (test ρ h).bindS ρ fun b h => if b then match body ρ h with
    | .nx ρ h => whileN test body k ρ h
    | .ct ρ h => whileN test body k ρ h
    | .bk ρ h => .nx ρ h
    | r => r
    else .nx ρ h
def forN (v : ItV) (body : T → En → Hd → RS) : Nat → Nat → En → Hd → RS
  | 0, _, _, _ => .fail
  | k + 1, n, ρ, h => match v.at h n with
    | some none => .nx ρ h
    | some (some t) => match body t ρ h with
      | .nx ρ h => forN v body k (n + 1) ρ h
      | .ct ρ h => forN v body k (n + 1) ρ h
      | .bk ρ h => .nx ρ h
      | r => r
    | none => .fail
def evB (P : Prg) (c : E) (ρ : En) (h : Hd) : Res Bool := (evE P c ρ h).bind fun x h => .of (truth h x) h
mutual
def evS (P : Prg) : S → En → Hd → RS
  | .expr e, ρ, h => (evE P e ρ h).bindS ρ fun _ h => .nx ρ h
  | .asg tg e, ρ, h => (resV (evE P e ρ h)).bindS ρ fun t h => match bindT tg t ρ with
    | some ρ' => .nx ρ' h
    | none => .fail
  | .par i j a b, ρ, h => (resV (evE P a ρ h)).bindS ρ fun t h => (resV (evE P b ρ h)).bindS ρ fun u h => .nx ((ρ.set i (some t)).set j (some u)) h
  | .setix o i e, ρ, h => (resV (evE P e ρ h)).bindS ρ fun t h => (evE P o ρ h).bindS ρ fun x h => match x with
    | .v (.ref a) => (evE P i ρ h).bindS ρ fun y h => match y, h.get a with
      | .v (.int k), some (.lst ts) => match L2.ixN ts.length k with
        | some j => .nx ρ (h.put a (.lst (ts.set j t)))
        | none => .fail
      | _, _ => .fail
    | _ => .fail
  | .ret e, ρ, h => (resV (evE P e ρ h)).bindS ρ fun t h => .rt t h
  | .retN, _, h => .rt .non h
  | .ite c a b, ρ, h => (evB P c ρ h).bindS ρ fun k h => if k then evSs P a ρ h else evSs P b ρ h
  | .whl c b, ρ, h => whileN (evB P c) (evSs P b) P.W ρ h
  | .fr tg it b, ρ, h => (evI P it ρ h).bindS ρ fun v h => forN v (fun t ρ h => match bindT tg t ρ with
    | some ρ' => evSs P b ρ' h
    | none => .fail) P.W 0 ρ h
  | .pass, ρ, h => .nx ρ h
  | .brk, ρ, h => .bk ρ h
  | .cont, ρ, h => .ct ρ h
  | .never, _, _ => .fail
def evSs (P : Prg) : Ss → En → Hd → RS
  | .nil, ρ, h => .nx ρ h
  | .cons s ss, ρ, h => match evS P s ρ h with
    | .nx ρ h => evSs P ss ρ h
    | r => r
end
/-- a def: its slots' names' count, its parameters' count, its body -/
structure Df where
  n : Nat
  ps : Nat
  body : Ss
def runDf (P : Prg) (d : Df) (ts : List T) (h : Hd) : Res T := if ts.length = d.ps then
    match evSs P d.body (ts.map some ++ List.replicate (d.n - d.ps) none) h with
    | .nx _ h => .ok .non h
    | .rt t h => .ok t h
    | .err c p _ h => .err c p h
    | _ => .fail
  else .fail
def allL : List (Nat × Ob) → Bool
  | [] => true
  | (_, .lst _) :: r => allL r
/-- behind a call of trees without objects: the heap as it was, and what came new -/
def after (h : Hd) (r : Res T) : Res T := match r with
  | .ok t h' => if t.pure then .ok t h else if allL h'.obs then .ok t ⟨h'.next, h'.obs ++ h.obs⟩ else .fail
  | .err c p h' => match p with
    | none => .err c none h
    | some t => if t.pure then .err c (some t) h else .err c (some t) ⟨h'.next, h.obs⟩
  | .fail => .fail
def callN (defs : List (Str × Df)) (glob : Str → Option T) (W : Nat) : Nat → Str → List T → Hd → Res T
  | 0, _, _, _ => .fail
  | k + 1, f, ts, h => match defs.lookup f with
    | some d => if T.pures ts then after h (runDf ⟨callN defs glob W k, glob, W⟩ d ts ⟨h.next, []⟩) else runDf ⟨callN defs glob W k, glob, W⟩ d ts h
    | none => .fail
end Pv
end

section
set_option Elab.async false
set_option linter.all false
set_option maxRecDepth 100000
set_option maxHeartbeats 4000000
/-! ### rows of ints, by the first place where they differ -/
namespace Pv
theorem lexL_nil (a : List Int) : lexL a [] = false := by cases a <;> rfl
theorem lexL_cons (x y : Int) (a b : List Int) : lexL (x :: a) (y :: b) = if x = y then lexL a b else decide (x < y) := rfl
theorem lexL_asym : ∀ a b : List Int, lexL a b = true → lexL b a = false
  | a, [], h => by rw [lexL_nil] at h; cases h
  | [], _ :: _, _ => rfl
  | x :: a, y :: b, h => by
    rw [lexL_cons] at h ⊢
    by_cases e : x = y
    · rw [if_pos e] at h
      rw [if_pos e.symm]
      exact lexL_asym a b h
    · rw [if_neg e, decide_eq_true_eq] at h
      rw [if_neg fun z => e z.symm]
      exact decide_eq_false (by omega)
theorem lexL_tr : ∀ a b c : List Int, lexL b a = false → lexL c b = false → lexL c a = false
  | [], _, _, _, _ => lexL_nil _
  | _ :: _, [], _, h, _ => by cases h
  | _ :: _, _ :: _, [], _, h => by cases h
  | x :: a, y :: b, z :: c, h1, h2 => by
    rw [lexL_cons] at h1 h2 ⊢
    by_cases e1 : y = x
    · rw [if_pos e1] at h1
      by_cases e2 : z = y
      · rw [if_pos e2] at h2
        rw [if_pos (e2.trans e1)]
        exact lexL_tr a b c h1 h2
      · rw [if_neg e2, decide_eq_false_iff_not] at h2
        rw [if_neg (by omega)]
        exact decide_eq_false (by omega)
    · rw [if_neg e1, decide_eq_false_iff_not] at h1
      by_cases e2 : z = y
      · rw [if_neg (by omega)]
        exact decide_eq_false (by omega)
      · rw [if_neg e2, decide_eq_false_iff_not] at h2
        rw [if_neg (by omega)]
        exact decide_eq_false (by omega)
theorem lexL_anti : ∀ a b : List Int, lexL a b = false → lexL b a = false → a = b
  | [], [], _, _ => rfl
  | [], _ :: _, h, _ => by cases h
  | _ :: _, [], _, h => by cases h
  | x :: a, y :: b, h1, h2 => by
    rw [lexL_cons] at h1 h2
    by_cases e : x = y
    · rw [if_pos e] at h1
      rw [if_pos e.symm] at h2
      rw [e, lexL_anti a b h1 h2]
    · rw [if_neg e, decide_eq_false_iff_not] at h1
      rw [if_neg fun z => e z.symm, decide_eq_false_iff_not] at h2
      omega
theorem insL_perm (x : List Int) : ∀ l, (insL x l).Perm (x :: l)
  | [] => List.Perm.refl _
  | y :: l => by
    unfold insL
    split
    · exact ((insL_perm x l).cons y).trans (List.Perm.swap x y l)
    · exact List.Perm.refl _
theorem sortL_perm : ∀ l, (sortL l).Perm l
  | [] => List.Perm.refl _
  | x :: l => (insL_perm x (sortL l)).trans ((sortL_perm l).cons x)
abbrev UpL (l : List (List Int)) : Prop := l.Pairwise fun a b => lexL b a = false
theorem insL_up (x : List Int) : ∀ {l : List (List Int)}, UpL l → UpL (insL x l)
  | [], _ => List.pairwise_singleton _ _
  | y :: l, h => by
    have h' := List.pairwise_cons.mp h
    unfold insL
    split
    · rename_i hxy
      refine List.pairwise_cons.mpr ⟨fun z hz => ?_, insL_up x h'.2⟩
      rcases List.mem_cons.mp ((insL_perm x l).mem_iff.mp hz) with e | hz
      · rw [e]; exact lexL_asym _ _ hxy
      · exact h'.1 z hz
    · rename_i hxy
      have hxy : lexL y x = false := by simpa using hxy
      refine List.pairwise_cons.mpr ⟨fun z hz => ?_, h⟩
      rcases List.mem_cons.mp hz with e | hz
      · rw [e]; exact hxy
      · exact lexL_tr _ _ _ hxy (h'.1 z hz)
theorem sortL_up : ∀ l, UpL (sortL l)
  | [] => List.Pairwise.nil
  | x :: l => insL_up x (sortL_up l)
/-- one such row alone -/
theorem upL_uniq : ∀ {l m : List (List Int)}, UpL l → UpL m → l.Perm m → l = m
  | [], m, _, _, p => by rw [List.nil_perm.mp p]
  | x :: l, [], _, _, p => by cases p.length_eq
  | x :: l, y :: m, hl, hm, p => by
    have a := List.pairwise_cons.mp hl
    have b := List.pairwise_cons.mp hm
    have hxy : x = y := by
      have h1 : lexL y x = false := by
        rcases List.mem_cons.mp (p.mem_iff.mpr (List.mem_cons_self (a := y) (l := m))) with e | q
        · rw [e]
          cases h : lexL x x with
          | false => rfl
          | true => have := lexL_asym _ _ h; rw [h] at this; cases this
        · exact a.1 y q
      have h2 : lexL x y = false := by
        rcases List.mem_cons.mp (p.mem_iff.mp (List.mem_cons_self (a := x) (l := l))) with e | q
        · rw [e]
          cases h : lexL y y with
          | false => rfl
          | true => have := lexL_asym _ _ h; rw [h] at this; cases this
        · exact b.1 x q
      exact lexL_anti _ _ h2 h1
    subst hxy
    rw [upL_uniq a.2 b.2 (List.perm_cons x |>.mp p)]
end Pv
namespace SrtO
open PySem PySem.Spec PyProof.Rows TS Pv
section
variable {prog : Program} {w : World} {A : Around} {E : Value → Shared → Prop} {s : Shared}
theorem swo_lexL (k : Value → List Int) : Swo fun v u => lexL (k v) (k u) := ⟨fun _ _ h => lexL_asym _ _ h, fun _ _ _ h1 h2 => lexL_tr _ _ _ h1 h2⟩
/-- two rows of ints against each other, from place i on -/
theorem kat_rows {Q : Bool → Shared → Prop} : ∀ (xs ys : List Value) (ns ms : List Int), IntsAre xs ns → IntsAre ys ms → ∀ i, Q (lexL ns ms) s → PySem.W.KatLex prog w A true (decide (xs.length < ys.length)) Q (xs.zip ys) i s
  | [], [], _, _, .nil, .nil, i, h => PySem.W.kat_nil h
  | [], _ :: _, _, _, .nil, .cons _ _ _, i, h => PySem.W.kat_nil (by rw [decide_eq_true (by simp)]; exact h)
  | _ :: _, [], _, _, .cons _ _ _, .nil, i, h => PySem.W.kat_nil (by rw [decide_eq_false (by simp)]; rw [lexL_nil] at h; exact h)
  | _ :: xs, _ :: ys, _, _, .cons x t a, .cons y u b, i, h => by
    have hd : decide ((Value.int x t :: xs).length < (Value.int y u :: ys).length) = decide (xs.length < ys.length) := by simp
    rw [hd]
    rw [lexL_cons] at h
    refine PySem.W.kat_cons (SeqAt.EqAt.int_int x t y u prog w _ _ ?_)
    refine PySem.W.kat_go (fun e => ?_) (fun e => ?_)
    · have e : x = y := by simpa using e
      rw [if_pos e] at h
      exact PySem.W.kat_yes (kat_rows xs ys _ _ a b (i + 1) h)
    · have e : ¬ x = y := by simpa using e
      rw [if_neg e] at h
      cases i with
      | zero => exact PySem.W.kat_no (oneLt_int h)
      | succ i => exact PySem.W.kat_no (PySem.W.kat_one _ _ (PyProof.Rows.lt_int h))
theorem rows_cmp {vs : List Value} {k : Value → List Int} (hp : ∀ v ∈ vs, TupInts s.heap v (k v)) : Cmp prog w A s (tuples' true) (fun p => p.1 ∈ vs) (lt2 fun v u => lexL (k v) (k u)) := by
  intro p q hm hm'
  obtain ⟨a, xs, e, ⟨o, ho, hc, n, hd⟩, i⟩ := hp _ hm
  obtain ⟨a', ys, e', ⟨o', ho', hc', n', hd'⟩, i'⟩ := hp _ hm'
  show wpAny (model prog w) A (keyLt' (tuples' true) p.1 q.1) (fun r s' => s' = s ∧ r = lexL (k p.1) (k q.1)) (fun _ _ => False) s
  rw [e] at i ⊢
  rw [e'] at i' ⊢
  refine PySem.W.kat_lt ho hd ho' hd' ?_
  have := kat_rows (prog := prog) (w := w) (A := A) (s := s) (Q := fun r s' => s' = s ∧ r = lexL (k (.ref a)) (k (.ref a'))) xs.toList ys.toList _ _ i i' 0 ⟨rfl, rfl⟩
  rw [Array.length_toList, Array.length_toList] at this
  exact this
theorem rows_firsts {h : Heap} {k : Value → List Int} : ∀ {vs : List Value}, (∀ v ∈ vs, TupInts h v (k v) ∧ k v ≠ []) → ∃ fs : List Value, PySem.W.KatTups h vs fs ∧ fs.length = vs.length ∧ ∀ f ∈ fs, ∃ x t, f = Value.int x t
  | [], _ => ⟨[], PySem.W.KatTups.nil, rfl, fun _ hm => (by simp at hm)⟩
  | v :: vs, hp => by
    obtain ⟨fs, h1, h2, h3⟩ := rows_firsts (vs := vs) fun v' hm => hp v' (List.mem_cons_of_mem _ hm)
    obtain ⟨⟨a, xs, e, ⟨o, ho, hc, n, hd⟩, i⟩, hne⟩ := hp v List.mem_cons_self
    generalize k v = ns at i hne
    subst e
    cases hx : xs.toList with
    | nil => rw [hx] at i; cases i; exact absurd rfl hne
    | cons f r =>
      rw [hx] at i
      cases i with
      | cons x t i2 =>
        refine ⟨.int x t :: fs, PySem.W.KatTups.cons ho hc hd (by rw [← Array.getElem?_toList, hx] <;> rfl) h1, (by rw [List.length_cons, List.length_cons, h2]), fun f hm => ?_⟩
        rcases List.mem_cons.mp hm with z | hm
        · exact ⟨x, t, z⟩
        · exact h3 f hm
theorem rows_sortable {a : Addr} {vs : List Value} {k : Value → List Int} (h0 : 0 < vs.length) (hp : ∀ v ∈ vs, TupInts s.heap v (k v) ∧ k v ≠ []) (ha : ∀ o, s.heap.get? a = some o → o.cls ≠ .type "tuple") : SortableO prog w A s a vs fun v u => lexL (k v) (k u) := by
  intro h' keep
  have hp' : ∀ v ∈ vs, TupInts h' v (k v) ∧ k v ≠ [] := fun v hm => ⟨(hp v hm).1.keeps fun b o e c => keep b o (fun z => by subst z; exact ha o e c) e, (hp v hm).2⟩
  obtain ⟨fs, h1, h2, h3⟩ := rows_firsts hp'
  refine ⟨tuples' true, fun Q E hq => ?_, rows_cmp fun v hm => (hp' v hm).1⟩
  refine PySem.W.kat_kind (T := .type "int") h1 (by omega) (fun f hm => ?_) (by rfl) ?_
  · obtain ⟨x, t, rfl⟩ := h3 f hm
    exact PySem.W.Looks.now
  · rw [show (Value.type "int" != Value.type "tuple") = true by first | decide +kernel | rfl | decide]
    exact hq
theorem sorted_rows {l : Addr} {vs : List Value} {k : Value → List Int} {Q : Value → Shared → Prop} (hl : s.heap.IsList l vs.toArray) (hz : vs.length ≤ sizeLine) (hp : ∀ v ∈ vs, TupInts s.heap v (k v) ∧ k v ≠ [])
    (h : ∀ (h' : Heap) (d : Addr) (out : List Value), Srtd (fun v u => lexL (k v) (k u)) out → out.Perm vs → (∀ b o, s.heap.get? b = some o → h'.get? b = some o) → s.heap.objs.size ≤ d → (∃ n, h'.get? d = some (seqObj "list" out.toArray n)) → Q (.ref d) { s with heap := h' }) :
    wpAny (model prog w) A (call (.builtin "sorted") [.ref l]) Q E s := by
  refine sorted_ord (swo_lexL k) hl hz (fun h2 h₁ a ha kk => ?_) fun out hs hb => ?_
  · refine rows_sortable (s := { s with heap := h₁ }) (by omega) (fun v hm => ⟨(hp v hm).1.keeps fun b o e _ => (kk b o e).2, (hp v hm).2⟩) fun o e c => ?_
    cases (show some o = some (seqObj "list" vs.toArray 0) from e.symm.trans ha)
    exact absurd (Value.type.inj c) (by decide)
  · exact h _ _ out hs hb.perm (fun b o e => sortedAll_old e) (Nat.le_succ _) (sortedAll_at s.heap vs out.toArray)
end
end SrtO
namespace L2
open PySem PySem.Spec PyProof.Rows Pv
/-- sorted(xs), xs a list of rows of ints, none of them empty -/
def rSortR (K : PySem.W.Frag) : List V → Hp → VK → Prop := fun vs H Q => ∃ (a : Addr) (xs : List V), vs = [V.ref a] ∧ SqL K H a xs ∧ (∀ x ∈ xs, ∃ ns, TupI K H x ns ∧ ns ≠ []) ∧
  ∀ (ys : List V) (p : Addr), ys.Perm xs → ys.Pairwise (fun x y => ∀ n m, TupI K H x n → TupI K H y m → lexL m n = false) → H p = none → Q (.ref p) (upd H p (.lst ys))
section
variable {X : Cx}
theorem cr_sortR : CallR X (.builtin "sorted") (rSortR X.K) := by
  intro pins s σ H vs us Q I r h
  obtain ⟨a, xs, rfl, hs, hx, q⟩ := h
  obtain ⟨its, rv, hl, hz⟩ := I.list hs
  rw [Vals.ref1 r]
  have back := bkV_refs rv fun x m => by
    obtain ⟨ns, ⟨t, e, _⟩, _⟩ := hx x m
    exact ⟨t, e⟩
  obtain ⟨e1, e2⟩ := back
  have raw : ∀ v ∈ its, ∀ n, TupI X.K H (bkV v) n → TS.intsOf s.heap v = n := fun v hv n hn => by
    obtain ⟨t, et, ht⟩ := hn
    rw [bkV_ref et]
    exact (tupI_raw I ht).ints
  refine SrtO.sorted_rows (k := TS.intsOf s.heap) hl.isList (by rw [← rv.length]; exact hz) (fun v hv => ?_) fun h' d out h1 h2 kp hd hn => ?_
  · obtain ⟨t, rfl⟩ := e2 v hv
    have hm : V.ref t ∈ xs := by rw [e1]; exact List.mem_map.mpr ⟨.ref t, hv, rfl⟩
    obtain ⟨ns, ⟨t', e, ht⟩, hne⟩ := hx _ hm
    cases e
    have k1 := tupI_raw I ht
    rw [k1.ints]
    exact ⟨k1, hne⟩
  · have h3 : ∀ u ∈ out, ∃ a, u = Value.ref a := fun u hu => e2 u (h2.mem_iff.mp hu)
    obtain ⟨n, hn⟩ := hn
    have hp : (out.map bkV).Perm xs := by rw [e1]; exact h2.map bkV
    refine ⟨.ref d, upd H d (.lst (out.map bkV)), I.laid (t' := s.toks) kp hd ⟨by rw [hp.length_eq]; exact hz, out, n, bkV_vals h3, hn⟩, rfl, q _ d hp ?_ (I.hok.fresh hd)⟩
    rw [List.pairwise_map]
    refine List.Pairwise.imp_of_mem (fun {u v} mu mv huv n m hn hm => ?_) h1
    rw [← raw u (h2.mem_iff.mp mu) n hn, ← raw v (h2.mem_iff.mp mv) m hm]
    exact huv
end
end L2
end

section
set_option Elab.async false
set_option linter.all false
set_option maxRecDepth 100000
namespace Pv
open PySem PySem.Spec PyProof.Rows L2

/-! ### trees and values -/
/-- a list that nobody writes -/
def SqF (K : PySem.W.Frag) (H : Hp) (a : Addr) (xs : List V) : Prop := (∃ o, H a = some (.frz o (.lst xs))) ∨ ∃ (o : Obj) (its : Array Value) (n : Nat), K.lookup a = some o ∧ o.cls = .type "list" ∧ o.dict = none ∧ o.data = .seq its n ∧ its.size ≤ sizeLine ∧ Vals xs its.toList
theorem SqF.sq {K : PySem.W.Frag} {H : Hp} {a : Addr} {xs : List V} (h : SqF K H a xs) : SqL K H a xs := by
  rcases h with ⟨o, h⟩ | h
  · exact .inl (.inr ⟨o, h⟩)
  · exact .inr h
section
variable (K : PySem.W.Frag) (mg : Str → Option Value)
mutual
def Rp (m : List Addr) (H : Hp) : T → V → Prop
  | .non, v => v = .non
  | .bl b, v => v = .bl b
  | .int i, v => v = .int i
  | .str x, v => v = .str x
  | .tup ts, v => ∃ a xs, v = .ref a ∧ SqT K H a xs ∧ Rps m H ts xs
  | .fl ts, v => ∃ a xs, v = .ref a ∧ SqF K H a xs ∧ Rps m H ts xs
  | .ref i, v => ∃ a, m[i]? = some a ∧ v = .ref a
  | .fn x, v => ∃ f, mg x = some (.ref f) ∧ v = .ref f
  | .ty n, v => v = .ty n
def Rps (m : List Addr) (H : Hp) : List T → List V → Prop
  | [], xs => xs = []
  | t :: ts, xs => ∃ v vs, xs = v :: vs ∧ Rp m H t v ∧ Rps m H ts vs
end
end
def Pre (m m' : List Addr) : Prop := ∃ r, m' = m ++ r
theorem Pre.refl (m : List Addr) : Pre m m := ⟨[], by simp⟩
theorem Pre.trans {m m' m'' : List Addr} (a : Pre m m') (b : Pre m' m'') : Pre m m'' := by
  obtain ⟨r, rfl⟩ := a
  obtain ⟨q, rfl⟩ := b
  exact ⟨r ++ q, by simp⟩
theorem Pre.get {m m' : List Addr} (p : Pre m m') {i : Nat} {a : Addr} (h : m[i]? = some a) : m'[i]? = some a := by
  obtain ⟨r, rfl⟩ := p
  rw [List.getElem?_append_left (List.getElem?_eq_some_iff.mp h).1]
  exact h
/-- what never changes -/
structure Tups (H H' : Hp) : Prop where
  tup : ∀ a xs, H a = some (.tup xs) → H' a = some (.tup xs)
  frz : ∀ a o u, H a = some (.frz o u) → H' a = some (.frz o u)
def Ext (H H' : Hp) : Prop := ∀ a o, H a = some o → H' a = some o
theorem Tups.refl (H : Hp) : Tups H H := ⟨fun _ _ h => h, fun _ _ _ h => h⟩
theorem Tups.trans {H H' H'' : Hp} (a : Tups H H') (b : Tups H' H'') : Tups H H'' := ⟨fun _ _ h => b.tup _ _ (a.tup _ _ h), fun _ _ _ h => b.frz _ _ _ (a.frz _ _ _ h)⟩
theorem Ext.tups {H H' : Hp} (e : Ext H H') : Tups H H' := ⟨fun _ _ h => e _ _ h, fun _ _ _ h => e _ _ h⟩
theorem Ext.refl (H : Hp) : Ext H H := fun _ _ h => h
theorem Ext.trans {H H' H'' : Hp} (a : Ext H H') (b : Ext H' H'') : Ext H H'' := fun _ _ h => b _ _ (a _ _ h)
theorem Ext.new {H : Hp} {p : Addr} (o : HO) (hp : H p = none) : Ext H (upd H p o) := fun a u h => by
  rw [upd_ne (ne_of_none h hp)]; exact h
theorem Tups.write {H : Hp} {a : Addr} {o u : HO} (h : H a = some o) (ht : ∀ xs, o ≠ .tup xs) (hf : ∀ q w, o ≠ .frz q w) : Tups H (upd H a u) :=
  ⟨fun b xs e => by rw [upd_ne (fun z => by subst z; rw [h] at e; exact ht xs (Option.some.inj e))]; exact e,
   fun b q w e => by rw [upd_ne (fun z => by subst z; rw [h] at e; exact hf q w (Option.some.inj e))]; exact e⟩
theorem sqT_mono {K : PySem.W.Frag} {H H' : Hp} (t : Tups H H') {a : Addr} {xs : List V} (h : SqT K H a xs) : SqT K H' a xs := by
  rcases h with (h | ⟨o, h⟩) | h
  · exact .inl (.inl (t.tup _ _ h))
  · exact .inl (.inr ⟨o, t.frz _ _ _ h⟩)
  · exact .inr h
theorem sqF_mono {K : PySem.W.Frag} {H H' : Hp} (t : Tups H H') {a : Addr} {xs : List V} (h : SqF K H a xs) : SqF K H' a xs := by
  rcases h with ⟨o, h⟩ | h
  · exact .inl ⟨o, t.frz _ _ _ h⟩
  · exact .inr h
theorem sqL_ext {K : PySem.W.Frag} {H H' : Hp} (t : Ext H H') {a : Addr} {xs : List V} (h : SqL K H a xs) : SqL K H' a xs := by
  rcases h with (h | ⟨o, h⟩) | h
  · exact .inl (.inl (t _ _ h))
  · exact .inl (.inr ⟨o, t _ _ h⟩)
  · exact .inr h
section
variable {K : PySem.W.Frag} {mg : Str → Option Value} {m m' : List Addr} {H H' : Hp}
mutual
theorem Rp.mono (p : Pre m m') (t : Tups H H') : ∀ (x : T) (v : V), Rp K mg m H x v → Rp K mg m' H' x v
  | .non, _, h => h
  | .bl _, _, h => h
  | .int _, _, h => h
  | .str _, _, h => h
  | .tup ts, _, h => by
    obtain ⟨a, xs, e, q, r⟩ := h
    exact ⟨a, xs, e, sqT_mono t q, Rps.mono p t ts xs r⟩
  | .fl ts, _, h => by
    obtain ⟨a, xs, e, q, r⟩ := h
    exact ⟨a, xs, e, sqF_mono t q, Rps.mono p t ts xs r⟩
  | .ref i, _, h => by
    obtain ⟨a, e, r⟩ := h
    exact ⟨a, p.get e, r⟩
  | .fn _, _, h => h
  | .ty _, _, h => h
theorem Rps.mono (p : Pre m m') (t : Tups H H') : ∀ (x : List T) (v : List V), Rps K mg m H x v → Rps K mg m' H' x v
  | [], _, h => h
  | x :: xs, _, h => by
    obtain ⟨v, vs, e, r, q⟩ := h
    exact ⟨v, vs, e, Rp.mono p t x v r, Rps.mono p t xs vs q⟩
end
theorem Rps.length : ∀ {ts : List T} {vs : List V}, Rps K mg m H ts vs → ts.length = vs.length
  | [], _, h => by cases h; rfl
  | t :: ts, _, h => by
    obtain ⟨v, vs, e, r, q⟩ := h
    subst e
    simp [Rps.length q]
theorem Rps.get : ∀ {ts : List T} {vs : List V} {i : Nat} {t : T}, Rps K mg m H ts vs → ts[i]? = some t → ∃ v, vs[i]? = some v ∧ Rp K mg m H t v
  | [], _, _, _, h, e => by simp at e
  | x :: ts, _, 0, t, h, e => by
    obtain ⟨v, vs, e', r, q⟩ := h
    subst e'
    simp at e; subst e
    exact ⟨v, rfl, r⟩
  | x :: ts, _, i + 1, t, h, e => by
    obtain ⟨v, vs, e', r, q⟩ := h
    subst e'
    simp at e
    obtain ⟨w, h1, h2⟩ := Rps.get (i := i) q e
    exact ⟨w, by simpa using h1, h2⟩
theorem Rps.getV : ∀ {ts : List T} {vs : List V} {i : Nat} {v : V}, Rps K mg m H ts vs → vs[i]? = some v → ∃ t, ts[i]? = some t ∧ Rp K mg m H t v := fun {ts vs i v} h e => by
  have hl := h.length
  have hi := (List.getElem?_eq_some_iff.mp e).1
  have ht : ts[i]? = some ts[i] := List.getElem?_eq_getElem (by omega)
  obtain ⟨w, h1, h2⟩ := h.get ht
  rw [e] at h1; cases h1
  exact ⟨_, ht, h2⟩
theorem Rps.cons {t : T} {v : V} {ts : List T} {vs : List V} (a : Rp K mg m H t v) (b : Rps K mg m H ts vs) : Rps K mg m H (t :: ts) (v :: vs) := ⟨v, vs, rfl, a, b⟩
theorem Rps.nil : Rps K mg m H [] [] := rfl
theorem Rps.append : ∀ {ts us : List T} {vs ws : List V}, Rps K mg m H ts vs → Rps K mg m H us ws → Rps K mg m H (ts ++ us) (vs ++ ws)
  | [], _, _, _, h, q => by cases h; exact q
  | t :: ts, _, _, _, h, q => by
    obtain ⟨v, vs, e', r, q'⟩ := h
    subst e'
    exact .cons r (Rps.append q' q)
theorem Rps.take : ∀ (n : Nat) {ts : List T} {vs : List V}, Rps K mg m H ts vs → Rps K mg m H (ts.take n) (vs.take n)
  | 0, _, _, _ => by simp [Rps]
  | n + 1, [], _, h => by cases h; simp [Rps]
  | n + 1, t :: ts, _, h => by
    obtain ⟨v, vs, e', r, q'⟩ := h
    subst e'
    exact .cons r (Rps.take n q')
theorem Rps.drop : ∀ (n : Nat) {ts : List T} {vs : List V}, Rps K mg m H ts vs → Rps K mg m H (ts.drop n) (vs.drop n)
  | 0, _, _, h => by simpa using h
  | n + 1, [], _, h => by cases h; simp [Rps]
  | n + 1, t :: ts, _, h => by
    obtain ⟨v, vs, e', r, q'⟩ := h
    subst e'
    exact Rps.drop n q'
theorem Rps.set {t : T} {v : V} (r : Rp K mg m H t v) : ∀ (n : Nat) {ts : List T} {vs : List V}, Rps K mg m H ts vs → Rps K mg m H (ts.set n t) (vs.set n v)
  | _, [], _, h => by cases h; simp [Rps]
  | 0, _ :: ts, _, h => by
    obtain ⟨v, vs, e', _, q'⟩ := h
    subst e'
    exact .cons r q'
  | n + 1, _ :: ts, _, h => by
    obtain ⟨v, vs, e', r', q'⟩ := h
    subst e'
    exact .cons r' (Rps.set r n q')
theorem Rps.eraseIdx : ∀ (n : Nat) {ts : List T} {vs : List V}, Rps K mg m H ts vs → Rps K mg m H (ts.eraseIdx n) (vs.eraseIdx n)
  | _, [], _, h => by cases h; simp [Rps]
  | 0, _ :: ts, _, h => by
    obtain ⟨v, vs, e', _, q'⟩ := h
    subst e'
    exact q'
  | n + 1, _ :: ts, _, h => by
    obtain ⟨v, vs, e', r', q'⟩ := h
    subst e'
    exact .cons r' (Rps.eraseIdx n q')
theorem Rps.dropLast {ts : List T} {vs : List V} (h : Rps K mg m H ts vs) : Rps K mg m H ts.dropLast vs.dropLast := by
  rw [List.dropLast_eq_take, List.dropLast_eq_take, h.length]
  exact h.take _
theorem Rps.isEmpty {ts : List T} {vs : List V} (h : Rps K mg m H ts vs) : ts.isEmpty = vs.isEmpty := by
  have := h.length
  cases ts <;> cases vs <;> simp_all
end

/-! ### the small heap and the abstract one -/
section
variable (K : PySem.W.Frag) (mg : Str → Option Value)
def ROb (m : List Addr) (H : Hp) : Ob → Addr → Prop
  | .lst ts, a => ∃ xs, H a = some (.lst xs) ∧ Rps K mg m H ts xs
structure Sim (m : List Addr) (h : Hd) (H F : Hp) : Prop where
  len : h.next = m.length
  obj : ∀ i o, h.get i = some o → ∃ a, m[i]? = some a ∧ ROb K mg m H o a
  inj : ∀ i j a, (h.get i).isSome = true → (h.get j).isSome = true → m[i]? = some a → m[j]? = some a → i = j
  fr : ∀ a o, F a = some o → H a = some o
  sep : ∀ i ts a, h.get i = some (.lst ts) → m[i]? = some a → F a = none
def RpV (F : Hp) (m : List Addr) (h : Hd) (H : Hp) : VV → V → Prop
  | .v t, x => Rp K mg m H t x
  | .l ts, x => ∃ a xs, x = .ref a ∧ H a = some (.lst xs) ∧ Rps K mg m H ts xs ∧ F a = none ∧ ∀ i, (h.get i).isSome = true → m[i]? ≠ some a
/-- slots -/
structure RSl (m : List Addr) (H : Hp) (ρ : En) (σ : L2.St) : Prop where
  len : ρ.length = σ.length
  get : ∀ (i : Nat) t, ρ[i]? = some (some t) → ∃ v, σ[i]? = some (some v) ∧ Rp K mg m H t v
/-- an exception's payload -/
def RpX (m : List Addr) (H : Hp) (c : Str) (p : Option T) (C : Value) (d : Option Addr) : Prop :=
  ∃ f, mg c = some (.ref f) ∧ C = .ref f ∧ match p with
    | none => d = none
    | some t => ∃ x v, d = some x ∧ H x = some (.xd [("place", v)]) ∧ Rp K mg m H t v
end
section
variable {K : PySem.W.Frag} {mg : Str → Option Value} {m m' : List Addr} {h h' : Hd} {H H' F F' : Hp}
theorem ROb.ext (p : Pre m m') (t : Ext H H') {o : Ob} {a : Addr} (r : ROb K mg m H o a) : ROb K mg m' H' o a := by
  cases o with
  | lst ts =>
    obtain ⟨xs, e, r⟩ := r
    exact ⟨xs, t _ _ e, Rps.mono p t.tups _ _ r⟩
theorem Sim.ext (s : Sim K mg m h H F) (t : Ext H H') : Sim K mg m h H' F :=
  ⟨s.len, fun i o e => let ⟨a, e1, r⟩ := s.obj i o e; ⟨a, e1, r.ext (Pre.refl _) t⟩, s.inj, fun a o e => t _ _ (s.fr a o e), s.sep⟩
theorem Sim.less (s : Sim K mg m h H F') (t : Ext F F') : Sim K mg m h H F :=
  ⟨s.len, s.obj, s.inj, fun a o e => s.fr a o (t a o e), fun i ts a e1 e2 => by
    cases q : F a with
    | none => rfl
    | some o => have := t a o q; rw [s.sep i ts a e1 e2] at this; cases this⟩
theorem Sim.nofr (s : Sim K mg m h H F) {p : Addr} (hp : H p = none) : F p = none := by
  cases q : F p with
  | none => rfl
  | some o => rw [s.fr p o q] at hp; cases hp
theorem RSl.mono (p : Pre m m') (t : Tups H H') {ρ : En} {σ : L2.St} (r : RSl K mg m H ρ σ) : RSl K mg m' H' ρ σ :=
  ⟨r.len, fun i x e => let ⟨v, e1, q⟩ := r.get i x e; ⟨v, e1, Rp.mono p t _ _ q⟩⟩
theorem RSl.set {ρ : En} {σ : L2.St} (r : RSl K mg m H ρ σ) (i : Nat) {t : T} {v : V} (q : Rp K mg m H t v) : RSl K mg m H (ρ.set i (some t)) (σ.set i (some v)) :=
  ⟨by simp [r.len], fun j x e => by
    by_cases hj : i = j
    · subst hj
      by_cases hl : i < ρ.length
      · rw [List.getElem?_set_self hl] at e
        cases e
        exact ⟨v, by rw [List.getElem?_set_self (by rw [← r.len]; exact hl)], q⟩
      · rw [List.getElem?_eq_none (by simpa using hl)] at e; cases e
    · rw [List.getElem?_set_ne hj] at e ⊢
      exact r.get j x e⟩
theorem RSl.wipe {ρ : En} {σ : L2.St} (r : RSl K mg m H ρ σ) : ∀ vs : List Nat, RSl K mg m H (Pv.wipe ρ vs) (L2.wipe σ vs)
  | [] => r
  | i :: vs => by
    have ih := RSl.wipe r vs
    refine ⟨by show ((Pv.wipe ρ vs).set i none).length = ((L2.wipe σ vs).set i none).length; simp [ih.len], fun j x e => ?_⟩
    have e : ((Pv.wipe ρ vs).set i none)[j]? = some (some x) := e
    show ∃ v, ((L2.wipe σ vs).set i none)[j]? = some (some v) ∧ _
    by_cases hj : i = j
    · subst hj
      by_cases hl : i < (Pv.wipe ρ vs).length
      · rw [List.getElem?_set_self hl] at e; cases e
      · rw [List.getElem?_eq_none (by simpa using hl)] at e; cases e
    · rw [List.getElem?_set_ne hj] at e ⊢
      exact ih.get j x e

theorem look_store : ∀ (l : List (Nat × Ob)) (i j : Nat) (o : Ob), look (store l i o) j = if i = j then (look l i).map (fun _ => o) else look l j
  | [], i, j, o => by unfold store look; split <;> rfl
  | (k, u) :: r, i, j, o => by
    have ih := look_store r i j o
    unfold store
    by_cases hk : k = i
    · subst hk
      by_cases hj : k = j
      · subst hj; simp [look]
      · simp [look, hj]
    · rw [if_neg hk]
      by_cases hj : k = j
      · subst hj
        simp [look, Ne.symm hk]
      · by_cases hij : i = j
        · subst hij; simp only [look, hk, if_false]; simpa using ih
        · simp only [look, hj, if_false, hij]; simpa [hij] using ih
theorem Hd.get_put {h : Hd} {i j : Nat} {o : Ob} : (h.put i o).get j = if i = j then (h.get i).map (fun _ => o) else h.get j := look_store _ _ _ _
theorem Hd.get_new {h : Hd} {j : Nat} {o : Ob} : (h.new o).get j = if h.next = j then some o else h.get j := rfl
/-- a tracked list written -/
theorem Sim.put {i : Nat} {ts ts' : List T} {a : Addr} {xs' : List V} (s : Sim K mg m h H F) (hi : h.get i = some (.lst ts)) (ha : m[i]? = some a) (r : Rps K mg m H ts' xs') :
    Sim K mg m (h.put i (.lst ts')) (upd H a (.lst xs')) F ∧ Tups H (upd H a (.lst xs')) := by
  obtain ⟨a', e', xs, eh, r0⟩ := s.obj i _ hi
  rw [ha] at e'; cases e'
  have tp : Tups H (upd H a (.lst xs')) := Tups.write eh (fun _ z => by cases z) (fun _ _ z => by cases z)
  refine ⟨⟨s.len, fun j o e => ?_, fun j k b h1 h2 e1 e2 => ?_, fun b o e => ?_, fun j us b e1 e2 => ?_⟩, tp⟩
  · rw [Hd.get_put] at e
    by_cases hj : i = j
    · subst hj
      rw [if_pos rfl, hi] at e
      simp only [Option.map_some, Option.some.injEq] at e
      subst e
      exact ⟨a, ha, xs', upd_same, Rps.mono (Pre.refl _) tp _ _ r⟩
    · rw [if_neg hj] at e
      obtain ⟨b, eb, rb⟩ := s.obj j o e
      have nb : b ≠ a := fun z => hj (s.inj i j a (by rw [hi]; rfl) (by rw [e]; rfl) ha (by rw [← z]; exact eb))
      refine ⟨b, eb, ?_⟩
      cases o with
      | lst us => obtain ⟨ys, e1, r1⟩ := rb; exact ⟨ys, by rw [upd_ne nb]; exact e1, Rps.mono (Pre.refl _) tp _ _ r1⟩
  · have dom : ∀ j, ((h.put i (.lst ts')).get j).isSome = true → (h.get j).isSome = true := fun j q => by
      rw [Hd.get_put] at q
      by_cases hj : i = j
      · subst hj; rw [hi]; rfl
      · rw [if_neg hj] at q; exact q
    exact s.inj j k b (dom j h1) (dom k h2) e1 e2
  · have nb : b ≠ a := fun z => by
      subst z
      rw [s.sep i ts b hi ha] at e; cases e
    rw [upd_ne nb]; exact s.fr b o e
  · rw [Hd.get_put] at e1
    by_cases hj : i = j
    · subst hj; exact s.sep i ts b hi e2
    · rw [if_neg hj] at e1; exact s.sep j us b e1 e2
/-- a list just made is laid -/
theorem Sim.alloc {x : VV} {v : V} (s : Sim K mg m h H F) (r : RpV K mg F m h H x v) : ∃ m', Pre m m' ∧ Sim K mg m' (Pv.alloc x h).2 H F ∧ Rp K mg m' H (Pv.alloc x h).1 v := by
  cases x with
  | v t => exact ⟨m, Pre.refl m, s, r⟩
  | l ts =>
    obtain ⟨a, xs, rfl, ha, rs, fa, na⟩ := r
    have p : Pre m (m ++ [a]) := ⟨[a], rfl⟩
    have at_ : (m ++ [a])[h.next]? = some a := by rw [s.len]; simp
    have lt : ∀ j, (h.get j).isSome = true → j ≠ h.next ∧ (m ++ [a])[j]? = m[j]? := fun j q => by
      obtain ⟨o, e⟩ := Option.isSome_iff_exists.mp q
      obtain ⟨b, eb, _⟩ := s.obj j o e
      have hl := (List.getElem?_eq_some_iff.mp eb).1
      refine ⟨by rw [s.len]; omega, by rw [List.getElem?_append_left hl]⟩
    refine ⟨m ++ [a], p, ⟨?_, fun j o e => ?_, fun j k b h1 h2 e1 e2 => ?_, s.fr, fun j us b e1 e2 => ?_⟩, ⟨a, at_, rfl⟩⟩
    · show h.next + 1 = _; rw [s.len]; simp
    · have e : (h.new (.lst ts)).get j = some o := e
      rw [Hd.get_new] at e
      by_cases hj : h.next = j
      · rw [if_pos hj] at e
        cases e
        subst hj
        exact ⟨a, at_, xs, ha, Rps.mono p (Tups.refl _) _ _ rs⟩
      · rw [if_neg hj] at e
        obtain ⟨b, eb, rb⟩ := s.obj j o e
        exact ⟨b, p.get eb, rb.ext p (Ext.refl _)⟩
    · have h1 : ((h.new (.lst ts)).get j).isSome = true := h1
      have h2 : ((h.new (.lst ts)).get k).isSome = true := h2
      rw [Hd.get_new] at h1 h2
      by_cases hj : h.next = j
      · by_cases hk : h.next = k
        · omega
        · rw [if_neg hk] at h2
          subst hj
          rw [at_] at e1; cases e1
          rw [(lt k h2).2] at e2
          exact absurd e2 (na k h2)
      · rw [if_neg hj] at h1
        by_cases hk : h.next = k
        · subst hk
          rw [at_] at e2; cases e2
          rw [(lt j h1).2] at e1
          exact absurd e1 (na j h1)
        · rw [if_neg hk] at h2
          rw [(lt j h1).2] at e1
          rw [(lt k h2).2] at e2
          exact s.inj j k b h1 h2 e1 e2
    · have e1 : (h.new (.lst ts)).get j = some (.lst us) := e1
      rw [Hd.get_new] at e1
      by_cases hj : h.next = j
      · subst hj
        rw [at_] at e2; cases e2
        exact fa
      · rw [if_neg hj] at e1
        rw [(lt j (by rw [e1]; rfl)).2] at e2
        exact s.sep j us b e1 e2
/-- a value kept while other things go on -/
theorem Sim.hold {x : VV} {v : V} (s : Sim K mg m h H F) (r : RpV K mg F m h H x v) : ∃ F1, Ext F F1 ∧ Sim K mg m h H F1 ∧ ∀ m' h' H', Pre m m' → Tups H H' → Sim K mg m' h' H' F1 → RpV K mg F m' h' H' x v := by
  cases x with
  | v t => exact ⟨F, Ext.refl F, s, fun m' h' H' p t _ => Rp.mono p t _ _ r⟩
  | l ts =>
    obtain ⟨a, xs, rfl, ha, rs, fa, na⟩ := r
    have ex : Ext F (upd F a (.lst xs)) := Ext.new _ fa
    refine ⟨upd F a (.lst xs), ex, ⟨s.len, s.obj, s.inj, fun b o e => ?_, fun i us b e1 e2 => ?_⟩, fun m' h' H' p t s' => ?_⟩
    · by_cases hb : b = a
      · subst hb; rw [upd_same] at e; cases e; exact ha
      · rw [upd_ne hb] at e; exact s.fr b o e
    · have nb : b ≠ a := fun z => by subst z; exact na i (by rw [e1]; rfl) e2
      rw [upd_ne nb]; exact s.sep i us b e1 e2
    · refine ⟨a, xs, rfl, s'.fr a _ upd_same, Rps.mono p t _ _ rs, fa, fun i hi e => ?_⟩
      obtain ⟨o, eo⟩ := Option.isSome_iff_exists.mp hi
      obtain ⟨b, eb, rb⟩ := s'.obj i o eo
      rw [e] at eb; cases eb
      cases o with
      | lst us =>
        have := s'.sep i us a eo e
        rw [upd_same] at this; cases this
end
end Pv
end

section
set_option Elab.async false
set_option linter.all false
set_option maxRecDepth 100000
set_option maxHeartbeats 4000000
namespace Pv
open PySem PySem.Spec PyProof.Rows L2

section
variable (K : PySem.W.Frag) (mg : Str → Option Value)
/-- what holds behind an answer -/
def Ans (W : WX) (F : Hp) (m : List Addr) (H : Hp) (σ : L2.St) {α : Type} (r : Res α) (P : α → List Addr → Hd → Hp → Prop) : Prop := match r with
  | .ok x h' => ∀ m' H', Pre m m' → Tups H H' → Sim K mg m' h' H' F → P x m' h' H'
  | .err c p h' => ∀ m' H' C d, Pre m m' → Tups H H' → Sim K mg m' h' H' F → RpX K mg m' H' c p C d → W C d σ H'
  | .fail => False
def rdE (W : WX) (f : En → Hd → Res VV) : TE := fun σ H Q => ∃ ρ m h F, RSl K mg m H ρ σ ∧ Sim K mg m h H F ∧ Ans K mg W F m H σ (f ρ h) fun x m' h' H' => ∀ v, RpV K mg F m' h' H' x v → Q v H'
def rdT (W : WX) (f : En → Hd → Res T) : TE := fun σ H Q => ∃ ρ m h F, RSl K mg m H ρ σ ∧ Sim K mg m h H F ∧ Ans K mg W F m H σ (f ρ h) fun x m' h' H' => ∀ v, Rp K mg m' H' x v → Q v H'
def rdA (W : WX) (f : En → Hd → Res (List T)) : TA := fun σ H Q => ∃ ρ m h F, RSl K mg m H ρ σ ∧ Sim K mg m h H F ∧ Ans K mg W F m H σ (f ρ h) fun x m' h' H' => ∀ v, Rps K mg m' H' x v → Q v H'
def rdB (W : WX) (f : En → Hd → Res Bool) : TT := fun σ H Q => ∃ ρ m h F, RSl K mg m H ρ σ ∧ Sim K mg m h H F ∧ Ans K mg W F m H σ (f ρ h) fun x m' h' H' => Q x H'
end
section
variable {K : PySem.W.Frag} {mg : Str → Option Value} {W : WX} {F F1 H H' : Hp} {m m' : List Addr} {h h' : Hd} {σ : L2.St} {ρ : En} {α β : Type}
theorem Ans.imp {r : Res α} {P P' : α → List Addr → Hd → Hp → Prop} (a : Ans K mg W F m H σ r P) (f : ∀ x m' h' H', Pre m m' → Tups H H' → Sim K mg m' h' H' F → P x m' h' H' → P' x m' h' H') : Ans K mg W F m H σ r P' := by
  cases r with
  | ok x h' => exact fun m' H' p t s => f x m' h' H' p t s (a m' H' p t s)
  | err c p h' => exact a
  | fail => exact a
theorem Ans.bind {r : Res α} {g : α → Hd → Res β} {P : β → List Addr → Hd → Hp → Prop} (a : Ans K mg W F m H σ (r.bind g) P) : Ans K mg W F m H σ r fun x m' h' H' => Ans K mg W F m' H' σ (g x h') P := by
  cases r with
  | ok x h' =>
    intro m' H' p t s
    have a : Ans K mg W F m H σ (g x h') P := a
    show Ans K mg W F m' H' σ (g x h') P
    cases e : g x h' with
    | ok y h2 => rw [e] at a; exact fun m2 H2 p2 t2 s2 => a m2 H2 (p.trans p2) (t.trans t2) s2
    | err c q h2 => rw [e] at a; exact fun m2 H2 C d p2 t2 s2 => a m2 H2 C d (p.trans p2) (t.trans t2) s2
    | fail => rw [e] at a; exact a
  | err c p h' => exact a
  | fail => exact a
theorem Ans.later {r : Res α} {P : α → List Addr → Hd → Hp → Prop} (t : Tups H H') (a : Ans K mg W F m H σ r P) : Ans K mg W F m H' σ r P := by
  cases r with
  | ok x h' => exact fun m' H2 p t2 s => a m' H2 p (t.trans t2) s
  | err c q h' => exact fun m' H2 C d p t2 s => a m' H2 C d p (t.trans t2) s
  | fail => exact a
theorem Ans.fr {r : Res α} {P : α → List Addr → Hd → Hp → Prop} (e : Ext F F1) (a : Ans K mg W F m H σ r P) : Ans K mg W F1 m H σ r fun x m' h' H' => Sim K mg m' h' H' F ∧ P x m' h' H' := by
  cases r with
  | ok x h' => exact fun m' H' p t s => ⟨s.less e, a m' H' p t (s.less e)⟩
  | err c p h' => exact fun m' H' C d p t s => a m' H' C d p t (s.less e)
  | fail => exact a
theorem Ans.ok {x : α} {P : α → List Addr → Hd → Hp → Prop} (s : Sim K mg m h H F) (a : Ans K mg W F m H σ (.ok x h) P) : P x m h H := a m H (Pre.refl m) (Tups.refl H) s
theorem Ans.okv {x : VV} {Q : VK} (s : Sim K mg m h H F) (a : Ans K mg W F m H σ (.ok x h) fun x m' h' H' => ∀ v, RpV K mg F m' h' H' x v → Q v H') : ∀ v, RpV K mg F m h H x v → Q v H := a m H (Pre.refl m) (Tups.refl H) s
theorem Ans.of {o : Option α} {P : α → List Addr → Hd → Hp → Prop} (s : Sim K mg m h H F) (a : Ans K mg W F m H σ (.of o h) P) : ∃ x, o = some x ∧ P x m h H := by
  cases o with
  | none => exact False.elim a
  | some x => exact ⟨x, rfl, a.ok s⟩
theorem RpV.less {x : VV} {v : V} (e : Ext F F1) (r : RpV K mg F1 m h H x v) : RpV K mg F m h H x v := by
  cases x with
  | v t => exact r
  | l ts =>
    obtain ⟨a, xs, e1, e2, e3, e4, e5⟩ := r
    refine ⟨a, xs, e1, e2, e3, ?_, e5⟩
    cases q : F a with
    | none => rfl
    | some o => rw [e a o q] at e4; cases e4
theorem RpV.ext {x : VV} {v : V} (e : Ext H H') (r : RpV K mg F m h H x v) : RpV K mg F m h H' x v := by
  cases x with
  | v t => exact Rp.mono (Pre.refl _) e.tups _ _ r
  | l ts =>
    obtain ⟨a, xs, e1, e2, e3, e4, e5⟩ := r
    exact ⟨a, xs, e1, e _ _ e2, Rps.mono (Pre.refl _) e.tups _ _ e3, e4, e5⟩
theorem _root_.L2.PE.imp {X : Cx} {e : Expr} {t t' : TE} (p : PE X e t) (i : ∀ σ H Q, t' σ H Q → t σ H Q) : PE X e t' := ⟨fun pins s σ H Q I q => p.run pins s σ H Q I (i σ H Q q)⟩
theorem _root_.L2.PT.imp {X : Cx} {e : Expr} {t t' : TT} (p : PT X e t) (i : ∀ σ H Q, t' σ H Q → t σ H Q) : PT X e t' := ⟨fun pins s σ H Q I q => p.run pins s σ H Q I (i σ H Q q)⟩
theorem _root_.L2.PW.imp {X : Cx} {e : Expr} {t t' : TT} (p : PW X e t) (i : ∀ σ H Q, t' σ H Q → t σ H Q) : PW X e t' := ⟨fun wh pins s σ H Q I q => p.run wh pins s σ H Q I (i σ H Q q)⟩
theorem _root_.L2.PI.imp {X : Cx} {tg it : Expr} {t t' : TI} (p : PI X tg it t) (i : ∀ σ H Q, t' σ H Q → t σ H Q) : PI X tg it t' := ⟨fun pins s σ H Q I q => p.run pins s σ H Q I (i σ H Q q)⟩
theorem _root_.L2.PA.imp {X : Cx} {e : List Expr} {t t' : TA} (p : PA X e t) (i : ∀ σ H Q, t' σ H Q → t σ H Q) : PA X e t' := ⟨fun pos pins s σ H Q I q => p.run pos pins s σ H Q I (i σ H Q q)⟩

/-! ### one, two expressions, then something by values -/
theorem rd1 {β : Type} {fa : En → Hd → Res VV} {g : VV → Hd → Res β} {Q : V → Hp → Prop} {P : β → List Addr → Hd → Hp → Prop} (r : RSl K mg m H ρ σ) (s : Sim K mg m h H F)
    (a : Ans K mg W F m H σ ((fa ρ h).bind g) P)
    (n : ∀ x m1 h1 H1 v, Pre m m1 → RSl K mg m1 H1 ρ σ → Sim K mg m1 h1 H1 F → RpV K mg F m1 h1 H1 x v → Ans K mg W F m1 H1 σ (g x h1) P → Q v H1) : rdE K mg W fa σ H Q :=
  ⟨ρ, m, h, F, r, s, a.bind.imp fun x m1 h1 H1 p t s1 a1 v rv => n x m1 h1 H1 v p (r.mono p t) s1 rv a1⟩
theorem rd2 {β : Type} {fa fb : En → Hd → Res VV} {g : VV → VV → Hd → Res β} {Q : V → V → Hp → Prop} {P : β → List Addr → Hd → Hp → Prop} (r : RSl K mg m H ρ σ) (s : Sim K mg m h H F)
    (a : Ans K mg W F m H σ ((fa ρ h).bind fun x h => (fb ρ h).bind fun y h => g x y h) P)
    (n : ∀ x y m1 h1 H1 v w, Pre m m1 → RSl K mg m1 H1 ρ σ → Sim K mg m1 h1 H1 F → RpV K mg F m1 h1 H1 x v → RpV K mg F m1 h1 H1 y w → Ans K mg W F m1 H1 σ (g x y h1) P → Q v w H1) :
    rdE K mg W fa σ H fun v H1 => rdE K mg W fb σ H1 fun w H2 => Q v w H2 := by
  refine rd1 r s a fun x m1 h1 H1 v p r1 s1 rv a1 => ?_
  obtain ⟨F1, ex, sF, keep⟩ := s1.hold rv
  refine ⟨ρ, m1, h1, F1, r1, sF, (a1.bind.fr ex).imp fun y m2 h2 H2 p2 t2 s2 ⟨s2', a2⟩ w rw' => ?_⟩
  exact n x y m2 h2 H2 v w (p.trans p2) (r1.mono p2 t2) s2' (keep m2 h2 H2 p2 t2 s2) (rw'.less ex) a2

/-- a rule by values over what a small operation says -/
def OpOk (K : PySem.W.Frag) (mg : Str → Option Value) (r : R2) (g : Hd → VV → VV → Option VV) : Prop :=
  ∀ (m : List Addr) (h : Hd) (H F : Hp) (x y : VV) (v w : V) (z : VV) (Q : VK), Sim K mg m h H F → RpV K mg F m h H x v → RpV K mg F m h H y w → g h x y = some z → (∀ H' u, Ext H H' → RpV K mg F m h H' z u → Q u H') → r v w H Q
theorem rd_op {r : R2} {g : Hd → VV → VV → Option VV} (ok : OpOk K mg r g) {fa fb : En → Hd → Res VV} : ∀ σ H Q, rdE K mg W (fun ρ h => (fa ρ h).bind fun x h => (fb ρ h).bind fun y h => .of (g h x y) h) σ H Q → tOp r (rdE K mg W fa) (rdE K mg W fb) σ H Q := by
  intro σ H Q ⟨ρ, m, h, F, r, s, a⟩
  refine rd2 r s a fun x y m1 h1 H1 v w p r1 s1 rv rw' a1 => ?_
  obtain ⟨z, ez, q⟩ : ∃ z, g h1 x y = some z ∧ ∀ m' H', Pre m1 m' → Tups H1 H' → Sim K mg m' h1 H' F → ∀ v, RpV K mg F m' h1 H' z v → Q v H' := by
    cases e : g h1 x y with
    | none => rw [e] at a1; exact False.elim a1
    | some z => rw [e] at a1; exact ⟨z, rfl, a1⟩
  exact ok m1 h1 H1 F x y v w z Q s1 rv rw' ez fun H' u e ru => q m1 H' (Pre.refl _) e.tups (s1.ext e) u ru

/-! ### data -/
theorem SqT.ofR {H : Hp} {a : Addr} {xs : List V} (h : SqT K H a xs) : SqT K H a xs := h
mutual
theorem Dp.of (f : Nat → Option PyData) (hf : ∀ i d a, f i = some d → m[i]? = some a → Dp K H (.ref a) d) : ∀ (t : T) (d : PyData) (v : V), t.dat f = some d → Rp K mg m H t v → Dp K H v d
  | .non, d, v, e, r => by cases r; cases e; exact .non
  | .bl b, d, v, e, r => by cases r; cases e; exact .bl b
  | .int i, d, v, e, r => by cases r; cases e; exact .int i
  | .str x, d, v, e, r => by cases r; cases e; exact .str x
  | .tup ts, d, v, e, r => by
    obtain ⟨a, xs, rfl, q, rs⟩ := r
    have e : (T.dats f ts).map PyData.tuple = some d := e
    cases e2 : T.dats f ts with
    | none => rw [e2] at e; cases e
    | some ds => rw [e2] at e; cases e; exact .tup q (DpAll.of f hf ts ds xs e2 rs)
  | .fl ts, d, v, e, r => by
    obtain ⟨a, xs, rfl, q, rs⟩ := r
    have e : (T.dats f ts).map PyData.list = some d := e
    cases e2 : T.dats f ts with
    | none => rw [e2] at e; cases e
    | some ds => rw [e2] at e; cases e; exact .lst q.sq (DpAll.of f hf ts ds xs e2 rs)
  | .ref i, d, v, e, r => by
    obtain ⟨a, ea, rfl⟩ := r
    exact hf i d a e ea
  | .fn _, _, _, e, _ => by cases e
  | .ty _, _, _, e, _ => by cases e
theorem DpAll.of (f : Nat → Option PyData) (hf : ∀ i d a, f i = some d → m[i]? = some a → Dp K H (.ref a) d) : ∀ (ts : List T) (ds : List PyData) (vs : List V), T.dats f ts = some ds → Rps K mg m H ts vs → DpAll K H vs ds
  | [], ds, vs, e, r => by cases r; cases e; exact .nil
  | t :: ts, ds, vs, e, r => by
    obtain ⟨v, ws, rfl, r1, r2⟩ := r
    have e : (match t.dat f, T.dats f ts with | some d, some ds => some (d :: ds) | _, _ => none) = some ds := e
    cases e1 : t.dat f with
    | none => rw [e1] at e; cases e
    | some d1 =>
      cases e2 : T.dats f ts with
      | none => rw [e1, e2] at e; cases e
      | some ds2 =>
        rw [e1, e2] at e
        cases e
        exact .cons (Dp.of f hf t d1 v e1 r1) (DpAll.of f hf ts ds2 ws e2 r2)
end
theorem ROb.sq {o : Ob} {a : Addr} (r : ROb K mg m H o a) : ∃ xs, SqL K H a xs ∧ Rps K mg m H o.items xs := by
  cases o with
  | lst ts => obtain ⟨xs, e, r⟩ := r; exact ⟨xs, SqL.of e, r⟩
theorem refD_ok (s : Sim K mg m h H F) : ∀ (n i : Nat) (d : PyData) (a : Addr), refD h n i = some d → m[i]? = some a → Dp K H (.ref a) d
  | 0, _, _, _, e, _ => by cases e
  | n + 1, i, d, a, e, ea => by
    have e : (match h.get i with | some o => (T.dats (refD h n) o.items).map PyData.list | none => none) = some d := e
    cases eo : h.get i with
    | none => rw [eo] at e; cases e
    | some o =>
      rw [eo] at e
      have e : (T.dats (refD h n) o.items).map PyData.list = some d := e
      obtain ⟨b, eb, ro⟩ := s.obj i o eo
      rw [ea] at eb; cases eb
      obtain ⟨xs, q, rs⟩ := ro.sq
      cases e2 : T.dats (refD h n) o.items with
      | none => rw [e2] at e; cases e
      | some ds => rw [e2] at e; cases e; exact .lst q (DpAll.of _ (refD_ok s n) _ ds xs e2 rs)
theorem dat_ok (s : Sim K mg m h H F) {x : VV} {v : V} {d : PyData} (e : dat h x = some d) (r : RpV K mg F m h H x v) : Dp K H v d := by
  cases x with
  | v t => exact Dp.of _ (refD_ok s 6) t d v e r
  | l ts =>
    obtain ⟨a, xs, rfl, ha, rs, _, _⟩ := r
    have e : (T.dats (refD h 6) ts).map PyData.list = some d := e
    cases e2 : T.dats (refD h 6) ts with
    | none => rw [e2] at e; cases e
    | some ds => rw [e2] at e; cases e; exact .lst (SqL.of ha) (DpAll.of _ (refD_ok s 6) ts ds xs e2 rs)
/-- a sequence's items -/
theorem items_ok (s : Sim K mg m h H F) {x : VV} {v : V} {b : Bool} {ts : List T} (e : items h x = some (b, ts)) (r : RpV K mg F m h H x v) :
    ∃ a xs, v = .ref a ∧ Rps K mg m H ts xs ∧ ((b = true ∧ SqL K H a xs) ∨ (b = false ∧ SqT K H a xs)) := by
  cases x with
  | l us =>
    obtain ⟨a, xs, rfl, ha, rs, _, _⟩ := r
    cases e
    exact ⟨a, xs, rfl, rs, .inl ⟨rfl, SqL.of ha⟩⟩
  | v t =>
    cases t with
    | tup us =>
      obtain ⟨a, xs, rfl, q, rs⟩ := r
      cases e
      exact ⟨a, xs, rfl, rs, .inr ⟨rfl, q⟩⟩
    | fl us =>
      obtain ⟨a, xs, rfl, q, rs⟩ := r
      cases e
      exact ⟨a, xs, rfl, rs, .inl ⟨rfl, q.sq⟩⟩
    | ref i =>
      obtain ⟨a, ea, rfl⟩ := r
      have e : (match h.get i with | some o => some (true, o.items) | none => none) = some (b, ts) := e
      cases eo : h.get i with
      | none => rw [eo] at e; cases e
      | some o =>
        rw [eo] at e; cases e
        obtain ⟨c, ec, ro⟩ := s.obj i o eo
        rw [ea] at ec; cases ec
        obtain ⟨xs, q, rs⟩ := ro.sq
        exact ⟨a, xs, rfl, rs, .inl ⟨rfl, q⟩⟩
    | _ => cases e
theorem itemsM_ok (s : Sim K mg m h H F) {x : VV} {v : V} {ts : List T} (e : itemsM h x = some ts) (r : RpV K mg F m h H x v) :
    ∃ a xs, v = .ref a ∧ Rps K mg m H ts xs ∧ H a = some (.lst xs) := by
  cases x with
  | l us =>
    obtain ⟨a, xs, rfl, ha, rs, _, _⟩ := r
    cases e
    exact ⟨a, xs, rfl, rs, ha⟩
  | v t =>
    cases t with
    | ref i =>
      obtain ⟨a, ea, rfl⟩ := r
      have e : (match h.get i with | some (.lst ts) => some ts | _ => none) = some ts := e
      cases eo : h.get i with
      | none => rw [eo] at e; cases e
      | some o =>
        rw [eo] at e
        cases o with
        | lst us =>
          cases e
          obtain ⟨c, ec, xs, hx, rs⟩ := s.obj i _ eo
          rw [ea] at ec; cases ec
          exact ⟨a, xs, rfl, rs, hx⟩
    | _ => cases e
/-- a new list -/
theorem new_l (s : Sim K mg m h H F) {ts : List T} {xs : List V} (r : Rps K mg m H ts xs) {p : Addr} (hp : H p = none) : RpV K mg F m h (upd H p (.lst xs)) (.l ts) (.ref p) := by
  refine ⟨p, xs, rfl, upd_same, Rps.mono (Pre.refl _) (Ext.new _ hp).tups _ _ r, s.nofr hp, fun i hi e => ?_⟩
  obtain ⟨o, eo⟩ := Option.isSome_iff_exists.mp hi
  obtain ⟨b, eb, rb⟩ := s.obj i o eo
  rw [e] at eb; cases eb
  cases o with
  | lst us => obtain ⟨_, q, _⟩ := rb; rw [hp] at q; cases q
theorem new_t {ts : List T} {xs : List V} (r : Rps K mg m H ts xs) {p : Addr} (hp : H p = none) : RpV K mg F m h (upd H p (.tup xs)) (.v (.tup ts)) (.ref p) :=
  ⟨p, xs, rfl, SqT.of upd_same, Rps.mono (Pre.refl _) (Ext.new _ hp).tups _ _ r⟩
/-- truth -/
theorem truth_ok (s : Sim K mg m h H F) {x : VV} {v : V} {k : Bool} (e : truth h x = some k) (r : RpV K mg F m h H x v) : TruV K v H k := by
  have seq : ∀ {x : VV}, RpV K mg F m h H x v → (items h x).map (fun p => !p.2.isEmpty) = some k → TruV K v H k := fun {x} r e => by
    cases e2 : items h x with
    | none => rw [e2] at e; cases e
    | some p =>
      obtain ⟨b, ts⟩ := p
      rw [e2] at e
      cases e
      obtain ⟨a, xs, rfl, rs, (⟨_, q⟩ | ⟨_, q⟩)⟩ := items_ok s e2 r
      · exact .inl ⟨xs, q, by rw [← rs.isEmpty]⟩
      · exact .inr (.inl ⟨xs, q, by rw [← rs.isEmpty]⟩)
  cases x with
  | l ts => exact seq r e
  | v t =>
    cases t with
    | non => cases r; cases e; rfl
    | bl b => cases r; cases e; rfl
    | int i => cases r; cases e; rfl
    | tup ts => exact seq (x := .v (.tup ts)) r e
    | fl ts => exact seq (x := .v (.fl ts)) r e
    | ref i => exact seq (x := .v (.ref i)) r e
    | str _ => cases e
    | fn _ => cases e
    | ty _ => cases e
end
end Pv
end

section
set_option Elab.async false
set_option linter.all false
set_option maxRecDepth 100000
set_option maxHeartbeats 4000000
namespace Pv
open PySem PySem.Spec PyProof.Rows L2

theorem op_false {X : Cx} {f : Value → Value → Sem Value} : OpR X f (fun _ _ _ _ => False) := fun _ _ _ _ _ _ _ _ _ _ _ _ h => h.elim

/-- t * 1 is t -/
theorem tuple_mul1 (l : Addr) (items : Array Value) (n : Nat) (dd : Option Addr) (sl : Array (Option Value)) (u : Tok) :
    Meets (Builtin.«tuple.__mul__» ⟨[.ref l, .int 1 u], []⟩) (fun _ R s => s.heap.get? l = some { cls := .type "tuple", dict := dd, data := .seq items n, slots := sl } ∧
      R (.ok (.ret (Value.ref l))) s) :=
  .of_wp fun prog w A R s h => by
    obtain ⟨hp, g, d, tk, os⟩ := s
    obtain ⟨hl, h⟩ := h
    have f1 := AutoSeq1.idx_int
    wp_walk using wpAny_loadPart' hl
    exact ⟨_, rfl, h⟩
def rRep1 (K : PySem.W.Frag) : R2 := fun x y H Q => ∃ l xs, x = .ref l ∧ y = .int 1 ∧ SqT K H l xs ∧ Q (.ref l) H
theorem op_rep1 {X : Cx} : OpR X (binaryOp .Mult) (rRep1 X.K) := by
  intro pins s σ H x y v u Q I rx ry h
  obtain ⟨l, xs, rfl, rfl, hT, q⟩ := h
  cases rx
  obtain ⟨t, rfl⟩ := ry
  obtain ⟨its, r, ⟨⟨cls, dd, data, sl⟩, ho, hc, n, hd⟩, hs⟩ := I.tuple hT
  simp only at hc hd
  subst hc hd
  exact wpAny_binaryOp_repeat_ref (T := "tuple") (U := "int") (by decide) ⟨_, ho, rfl⟩ (fun s' => typeIs_int s' 1 t) noFill_tuple_mul F.fills_int_mul F.slot_int_rmul repeat_tuple F.slot_int_index.lookup
    (call_meets F.slot_int_rmul (typeIs_int s 1 t) F.entry_int_rmul (F.args_int_rmul_2 _ _) (int_rmul_tuple 1 t l its.toArray n dd sl)
      ⟨ho, rfl, ⟨_, ho, rfl⟩, call_meets F.slot_tuple_mul ⟨_, ho, rfl⟩ F.entry_tuple_mul (F.args_tuple_mul_2 _ _) (tuple_mul1 l its.toArray n dd sl t) ⟨ho, ⟨.ref l, H, I, rfl, q⟩⟩⟩)

/-! ### the operators -/
def bopO : Bop → Operator
  | .add => .Add | .sub => .Sub | .mul => .Mult | .fdiv => .FloorDiv | .mod => .Mod | .pow => .Pow
def rBop (K : PySem.W.Frag) : Bop → R2
  | .add => fun x y H Q => rI0 (fun i j => .int (i + j)) x y H Q ∨ (rCatA K x y H Q ∨ rCat x y H Q)
  | .sub => rI0 fun i j => .int (i - j)
  | .mul => fun x y H Q => rI CMul (fun i j => .int (i * j)) x y H Q ∨ (rRepT K x y H Q ∨ rRep1 K x y H Q)
  | .fdiv => rI CDiv fun i j => .int (i / j)
  | .mod => rI (fun _ j => 0 < j) fun i j => .int (i % j)
  | .pow => rI CPow fun i j => .int (i ^ j.toNat)
theorem op_bop {X : Cx} (o : Bop) : OpR X (binaryOp (bopO o)) (rBop X.K o) := by
  cases o
  · exact op_add.or (op_catA.or op_cat)
  · exact op_sub
  · exact op_mul.or (op_repT.or op_rep1)
  · exact op_fdiv
  · exact op_mod
  · exact op_pow
section
variable {K : PySem.W.Frag} {mg : Str → Option Value} {W : WX} {F F1 H H' : Hp} {m m' : List Addr} {h h' : Hd} {σ : L2.St} {ρ : En} {α β : Type}
theorem smallI_iff {i : Int} (h : smallI i = true) : -(2 ^ 64) < i ∧ i < 2 ^ 64 := by
  unfold smallI at h
  simp only [Bool.and_eq_true, decide_eq_true_eq] at h
  exact ⟨by omega, by omega⟩
theorem flat_rps {ts : List T} {xs : List V} (r : Rps K mg m H ts xs) : ∀ n : Nat, Rps K mg m H (List.replicate n ts).flatten (List.replicate n xs).flatten
  | 0 => rfl
  | n + 1 => by
    rw [List.replicate_succ, List.replicate_succ, List.flatten_cons, List.flatten_cons]
    exact r.append (flat_rps r n)
theorem bop_ok (o : Bop) : OpOk K mg (rBop K o) (opB o) := by
  intro m h H F x y v w z Q s rx ry e q
  unfold opB at e
  split at e
  · rename_i i j
    cases rx
    cases ry
    cases ek : binI o i j with
    | none => rw [ek] at e; cases e
    | some k =>
      rw [ek] at e
      cases e
      have q : Q (.int k) H := q H _ (Ext.refl H) rfl
      cases o with
      | add => cases ek; exact .inl ⟨i, j, rfl, rfl, q⟩
      | sub => cases ek; exact ⟨i, j, rfl, rfl, q⟩
      | mul =>
        have ek : (if (smallI i || smallI j) = true then some (i * j) else none) = some k := ek
        by_cases hc : (smallI i || smallI j) = true
        · rw [if_pos hc] at ek
          cases ek
          refine .inl ⟨i, j, rfl, rfl, ?_, q⟩
          rcases Bool.or_eq_true_iff.mp hc with hc | hc
          · exact .inl (smallI_iff hc)
          · exact .inr (smallI_iff hc)
        · rw [if_neg hc] at ek; cases ek
      | fdiv =>
        have ek : (if (decide (0 < j) && decide (j < 1073741824)) = true then some (i / j) else none) = some k := ek
        by_cases hc : (decide (0 < j) && decide (j < 1073741824)) = true
        · rw [if_pos hc] at ek
          cases ek
          simp only [Bool.and_eq_true, decide_eq_true_eq] at hc
          exact ⟨i, j, rfl, rfl, hc, q⟩
        · rw [if_neg hc] at ek; cases ek
      | mod =>
        have ek : (if 0 < j then some (i % j) else none) = some k := ek
        by_cases hc : 0 < j
        · rw [if_pos hc] at ek
          cases ek
          exact ⟨i, j, rfl, rfl, hc, q⟩
        · rw [if_neg hc] at ek; cases ek
      | pow =>
        have ek : (if (decide (0 ≤ j) && decide (j ≤ 1000000) && decide (i.natAbs < 2 ^ 64)) = true then some (i ^ j.toNat) else none) = some k := ek
        by_cases hc : (decide (0 ≤ j) && decide (j ≤ 1000000) && decide (i.natAbs < 2 ^ 64)) = true
        · rw [if_pos hc] at ek
          cases ek
          simp only [Bool.and_eq_true, decide_eq_true_eq] at hc
          exact ⟨i, j, rfl, rfl, ⟨hc.1.1, hc.1.2, hc.2⟩, q⟩
        · rw [if_neg hc] at ek; cases ek
  · rename_i ts us
    obtain ⟨a, xs, rfl, hx, rsx⟩ := rx
    obtain ⟨b, ys, rfl, hy, rsy⟩ := ry
    cases o with
    | add =>
      simp only at e
      cases ec : cat ts us with
      | none => rw [ec] at e; cases e
      | some zs =>
        rw [ec] at e
        cases e
        unfold cat at ec
        split at ec
        · rename_i hl
          cases ec
          have hl : xs.length + ys.length ≤ sizeLine := by rw [sizeLine_eq, ← rsx.length, ← rsy.length]; exact hl
          refine .inr (.inl ⟨a, b, xs, ys, rfl, rfl, hx, hy, hl, fun e0 => ?_, fun _ e0 => ?_, fun _ _ p hp => ?_⟩)
          · subst e0
            have : ts = [] := List.eq_nil_of_length_eq_zero rsx.length
            subst this
            exact q H _ (Ext.refl H) ⟨b, ys, rfl, hy, rsy⟩
          · subst e0
            have : us = [] := List.eq_nil_of_length_eq_zero rsy.length
            subst this
            rw [List.append_nil] at q
            exact q H _ (Ext.refl H) ⟨a, xs, rfl, hx, rsx⟩
          · exact q _ _ (Ext.new _ hp) (new_t (rsx.append rsy) hp)
        · cases ec
    | _ => cases e
  · rename_i ts k
    obtain ⟨a, xs, rfl, hx, rsx⟩ := rx
    cases ry
    cases o with
    | mul =>
      simp only at e
      unfold repT at e
      split at e
      · rename_i hc
        cases e
        simp only [Bool.and_eq_true, decide_eq_true_eq, Bool.not_eq_true'] at hc
        obtain ⟨⟨⟨h1, h2⟩, h3⟩, h4⟩ := hc
        by_cases hk : k = 1
        · subst hk
          refine .inr (.inr ⟨a, xs, rfl, rfl, hx, q H _ (Ext.refl H) ⟨a, xs, rfl, hx, ?_⟩⟩)
          simpa using rsx
        · refine .inr (.inl ⟨a, k, xs, rfl, rfl, hx, fun z => ?_, by omega, h2, by rw [← rsx.length]; exact h3, fun p hp => q _ _ (Ext.new _ hp) (new_t (flat_rps rsx _) hp)⟩)
          subst z
          have : ts = [] := List.eq_nil_of_length_eq_zero rsx.length
          subst this
          cases h4
      · cases e
    | _ => cases e
  · split at e
    · rename_i xs ys e1 e2
      obtain ⟨a, xv, rfl, rsx, hx⟩ := itemsM_ok s e1 rx
      obtain ⟨b, yv, rfl, rsy, hy⟩ := itemsM_ok s e2 ry
      cases ec : cat xs ys with
      | none => rw [ec] at e; cases e
      | some zs =>
        rw [ec] at e
        cases e
        unfold cat at ec
        split at ec
        · rename_i hl
          cases ec
          have hl : xv.length + yv.length ≤ sizeLine := by rw [sizeLine_eq, ← rsx.length, ← rsy.length]; exact hl
          exact .inr (.inr ⟨a, b, xv, yv, rfl, rfl, hx, hy, hl, fun p hp => q _ _ (Ext.new _ hp) (new_l s (rsx.append rsy) hp)⟩)
        · cases ec
    · cases e

/-! ### comparisons -/
def copO : Cop → CmpOp
  | .eq => .Eq | .ne => .NotEq | .lt => .Lt | .le => .LtE | .gt => .Gt | .ge => .GtE | .isin => .In | .notin => .NotIn
def rInA (K : PySem.W.Frag) (neg : Bool) : R2 := fun x y H Q => ∃ d ds, Dp K H x d ∧ (Dp K H y (.list ds) ∨ Dp K H y (.tuple ds)) ∧ SeqAt.shaped d = true ∧ SeqAt.shaped (.list ds) = true ∧ Q (.bl (neg != ds.any fun z => PyData.eqv z d)) H
theorem shaped_tuple {ds : List PyData} (h : SeqAt.shaped (.list ds) = true) : SeqAt.shaped (.tuple ds) = true := h
theorem op_inA {X : Cx} (hu : X.A.units + 65 < cLine) : OpR X (compareOp .In) (rInA X.K false) := by
  intro pins s σ H x y v u Q I rx ry h
  obtain ⟨d, ds, hd, he, sd, se, q⟩ := h
  obtain ⟨as, r1⟩ := Dp.reads I d x v hd rx
  have q : Q (.bl (ds.any fun z => PyData.eqv z d)) H := by simpa using q
  rcases he with he | he
  · obtain ⟨bs, r2⟩ := Dp.reads I (.list ds) y u he ry
    exact SeqAt.in_list_reads r2 r1 (SeqAt.canLay_of_shaped se) (SeqAt.canLay_of_shaped sd) (room_in_shaped sd hu) ⟨.bl _, H, I, rfl, q⟩
  · obtain ⟨bs, r2⟩ := Dp.reads I (.tuple ds) y u he ry
    exact SeqAt.in_tuple_reads r2 r1 (SeqAt.canLay_of_shaped se) (SeqAt.canLay_of_shaped sd) (room_in_shaped sd hu) ⟨.bl _, H, I, rfl, q⟩
theorem op_notInA {X : Cx} (hu : X.A.units + 65 < cLine) : OpR X (compareOp .NotIn) (rInA X.K true) := by
  intro pins s σ H x y v u Q I rx ry h
  obtain ⟨d, ds, hd, he, sd, se, q⟩ := h
  obtain ⟨as, r1⟩ := Dp.reads I d x v hd rx
  have q : Q (.bl (!ds.any fun z => PyData.eqv z d)) H := by simpa using q
  rcases he with he | he
  · obtain ⟨bs, r2⟩ := Dp.reads I (.list ds) y u he ry
    exact SeqAt.notIn_list_reads r2 r1 (SeqAt.canLay_of_shaped se) (SeqAt.canLay_of_shaped sd) (room_in_shaped sd hu) ⟨.bl _, H, I, rfl, q⟩
  · obtain ⟨bs, r2⟩ := Dp.reads I (.tuple ds) y u he ry
    exact SeqAt.notIn_tuple_reads r2 r1 (SeqAt.canLay_of_shaped se) (SeqAt.canLay_of_shaped sd) (room_in_shaped sd hu) ⟨.bl _, H, I, rfl, q⟩
def rCop (K : PySem.W.Frag) : Cop → R2
  | .eq => rEqD K
  | .ne => rNeD K
  | .lt => rI0 fun i j => .bl (decide (i < j))
  | .le => rI0 fun i j => .bl (decide (i ≤ j))
  | .gt => rI0 fun i j => .bl (decide (j < i))
  | .ge => rI0 fun i j => .bl (decide (j ≤ i))
  | .isin => rInA K false
  | .notin => rInA K true
theorem op_cop {X : Cx} (hu : X.A.units + 65 < cLine) (o : Cop) : OpR X (compareOp (copO o)) (rCop X.K o) := by
  cases o
  · exact op_eqD (by omega)
  · exact op_neD (by omega)
  · exact op_lt
  · exact op_le
  · exact op_gt
  · exact op_ge
  · exact op_inA hu
  · exact op_notInA hu
abbrev boolOf (o : Option Bool) : Option VV := o.map fun b => .v (.bl b)
theorem eqD_ok (s : Sim K mg m h H F) {x y : VV} {v w : V} {b : Bool} (rx : RpV K mg F m h H x v) (ry : RpV K mg F m h H y w) (e : eqD h x y = some b) :
    ∃ d d', Dp K H v d ∧ Dp K H w d' ∧ SeqAt.shaped d = true ∧ SeqAt.shaped d' = true ∧ b = PyData.eqv d d' := by
  unfold eqD at e
  split at e
  · rename_i d d' e1 e2
    split at e
    · rename_i hs
      cases e
      simp only [Bool.and_eq_true] at hs
      exact ⟨d, d', dat_ok s e1 rx, dat_ok s e2 ry, hs.1, hs.2, rfl⟩
    · cases e
  · cases e
theorem inD_ok (s : Sim K mg m h H F) {x y : VV} {v w : V} {b : Bool} (rx : RpV K mg F m h H x v) (ry : RpV K mg F m h H y w) (e : inD h x y = some b) :
    ∃ d ds, Dp K H v d ∧ (Dp K H w (.list ds) ∨ Dp K H w (.tuple ds)) ∧ SeqAt.shaped d = true ∧ SeqAt.shaped (.list ds) = true ∧ b = ds.any fun z => PyData.eqv z d := by
  unfold inD at e
  split at e
  · rename_i d bb ts e1 e2
    split at e
    · rename_i ds e3
      split at e
      · rename_i hs
        cases e
        simp only [Bool.and_eq_true] at hs
        obtain ⟨a, xs, rfl, rs, hq⟩ := items_ok s e2 ry
        have hall : DpAll K H xs ds := DpAll.of _ (refD_ok s 6) ts ds xs e3 rs
        refine ⟨d, ds, dat_ok s e1 rx, ?_, hs.1, hs.2, rfl⟩
        rcases hq with ⟨_, hq⟩ | ⟨_, hq⟩
        · exact .inl (.lst hq hall)
        · exact .inr (.tup hq hall)
      · cases e
    · cases e
  · cases e
theorem twoI_ok {x y : VV} {i j : Int} (e : twoI x y = some (i, j)) : x = .v (.int i) ∧ y = .v (.int j) := by
  unfold twoI at e
  split at e
  · cases e; exact ⟨rfl, rfl⟩
  · cases e
theorem cop_ok (o : Cop) : OpOk K mg (rCop K o) (fun h x y => boolOf (opC o h x y)) := by
  intro m h H F x y v w z Q s rx ry e q
  have e : (opC o h x y).map (fun b => VV.v (.bl b)) = some z := e
  cases eb : opC o h x y with
  | none => rw [eb] at e; cases e
  | some b =>
    rw [eb] at e
    cases e
    have q : Q (.bl b) H := q H _ (Ext.refl H) rfl
    have cmp : ∀ {o : Cop}, (match twoI x y with | some (i, j) => cmpI o i j | none => none) = some b → ∃ i j, v = .int i ∧ w = .int j ∧ cmpI o i j = some b := fun {o} e => by
      cases e2 : twoI x y with
      | none => rw [e2] at e; cases e
      | some p =>
        obtain ⟨i, j⟩ := p
        rw [e2] at e
        obtain ⟨ex, ey⟩ := twoI_ok e2
        rw [ex] at rx
        rw [ey] at ry
        exact ⟨i, j, rx, ry, e⟩
    cases o with
    | eq =>
      obtain ⟨d, d', h1, h2, h3, h4, rfl⟩ := eqD_ok s rx ry eb
      exact ⟨d, d', h1, h2, h3, h4, q⟩
    | ne =>
      have eb : (eqD h x y).map not = some b := eb
      cases e2 : eqD h x y with
      | none => rw [e2] at eb; cases eb
      | some c =>
        rw [e2] at eb
        cases eb
        obtain ⟨d, d', h1, h2, h3, h4, rfl⟩ := eqD_ok s rx ry e2
        exact ⟨d, d', h1, h2, h3, h4, q⟩
    | lt => obtain ⟨i, j, rfl, rfl, e3⟩ := cmp (o := .lt) eb; cases e3; exact ⟨i, j, rfl, rfl, q⟩
    | le => obtain ⟨i, j, rfl, rfl, e3⟩ := cmp (o := .le) eb; cases e3; exact ⟨i, j, rfl, rfl, q⟩
    | gt => obtain ⟨i, j, rfl, rfl, e3⟩ := cmp (o := .gt) eb; cases e3; exact ⟨i, j, rfl, rfl, q⟩
    | ge => obtain ⟨i, j, rfl, rfl, e3⟩ := cmp (o := .ge) eb; cases e3; exact ⟨i, j, rfl, rfl, q⟩
    | isin =>
      obtain ⟨d, ds, h1, h2, h3, h4, rfl⟩ := inD_ok s rx ry eb
      exact ⟨d, ds, h1, h2, h3, h4, by simpa using q⟩
    | notin =>
      have eb : (inD h x y).map not = some b := eb
      cases e2 : inD h x y with
      | none => rw [e2] at eb; cases eb
      | some c =>
        rw [e2] at eb
        cases eb
        obtain ⟨d, ds, h1, h2, h3, h4, rfl⟩ := inD_ok s rx ry e2
        exact ⟨d, ds, h1, h2, h3, h4, by simpa using q⟩

/-! ### subscripts, slices -/
def rIxA (K : PySem.W.Frag) : R2 := fun x y H Q => rIxL K x y H Q ∨ rIxT K x y H Q
theorem ix_A {X : Cx} : IxR X (rIxA X.K) := fun value slice pins s σ H x y v u Q I rx ry h hs => by
  rcases h with h | h
  · exact ix_list value slice pins s σ H x y v u Q I rx ry h hs
  · exact ix_tup value slice pins s σ H x y v u Q I rx ry h hs
theorem atI_ok {ts : List T} {xs : List V} (r : Rps K mg m H ts xs) {i : Int} {t : T} (e : L2.atI ts i = some t) : ∃ v, L2.atI xs i = some v ∧ Rp K mg m H t v := by
  unfold L2.atI at e ⊢
  rw [← r.length]
  cases q : L2.ixN ts.length i with
  | none => rw [q] at e; cases e
  | some j => rw [q] at e; exact r.get e
theorem ix_ok : OpOk K mg (rIxA K) opIx := by
  intro m h H F x y v w z Q s rx ry e q
  unfold opIx at e
  split at e
  · rename_i b ts i e1
    cases ry
    obtain ⟨a, xs, rfl, rs, hq⟩ := items_ok s e1 rx
    cases e2 : L2.atI ts i with
    | none => rw [e2] at e; cases e
    | some t =>
      rw [e2] at e
      cases e
      obtain ⟨u, hu, ru⟩ := atI_ok rs e2
      have q := q H u (Ext.refl H) ru
      rcases hq with ⟨_, hq⟩ | ⟨_, hq⟩
      · exact .inl ⟨a, xs, i, u, rfl, rfl, hq, hu, q⟩
      · exact .inr ⟨a, xs, i, u, rfl, rfl, hq, hu, q⟩
  · cases e
def rSlX (K : PySem.W.Frag) : V → Option Int → Option Int → Hp → VK → Prop := fun x lo hi H Q => rSlA K x lo hi H Q ∨ rSlL K x lo hi H Q
theorem sl_X {X : Cx} : SlR X (rSlX X.K) := fun pins s σ H x v vl vu lo hi sl Q I rx hs pl pu h => by
  rcases h with h | h
  · exact sl_tupA pins s σ H x v vl vu lo hi sl Q I rx hs pl pu h
  · exact sl_list pins s σ H x v vl vu lo hi sl Q I rx hs pl pu h
theorem cut_ok {ts : List T} {xs : List V} (r : Rps K mg m H ts xs) (lo hi : Option Int) : Rps K mg m H (cut ts lo hi) (cutV xs lo hi) := by
  unfold cut cutV
  rw [← r.length]
  exact (r.drop _).take _
theorem cut_whole {ts : List T} {lo hi : Option Int} (h : HT.sIx ts.length 0 lo = 0 ∧ HT.sIx ts.length ts.length hi = ts.length) : cut ts lo hi = ts := by
  unfold cut
  rw [h.1, h.2]
  simp
theorem sl_ok {x z : VV} {v : V} {lo hi : Option Int} {Q : VK} (s : Sim K mg m h H F) (rx : RpV K mg F m h H x v) (e : opSl h x lo hi = some z) (q : ∀ H' u, Ext H H' → RpV K mg F m h H' z u → Q u H') : rSlX K v lo hi H Q := by
  unfold opSl at e
  cases e1 : items h x with
  | none => rw [e1] at e; cases e
  | some p =>
    obtain ⟨b, ts⟩ := p
    rw [e1] at e
    obtain ⟨a, xs, rfl, rs, (⟨rfl, hq⟩ | ⟨rfl, hq⟩)⟩ := items_ok s e1 rx
    · cases e
      exact .inr ⟨a, xs, rfl, hq, fun p hp => q _ _ (Ext.new _ hp) (new_l s (cut_ok rs lo hi) hp)⟩
    · cases e
      refine .inl ⟨a, xs, rfl, hq, fun hw => ?_, fun _ p hp => q _ _ (Ext.new _ hp) (new_t (cut_ok rs lo hi) hp)⟩
      rw [← rs.length] at hw
      refine q H _ (Ext.refl H) ?_
      show RpV K mg F m h H (.v (.tup (cut ts lo hi))) (.ref a)
      rw [cut_whole hw]
      exact ⟨a, xs, rfl, hq, rs⟩
end
end Pv
end

section
set_option Elab.async false
set_option linter.all false
set_option maxRecDepth 100000
set_option maxHeartbeats 4000000
namespace Pv
open PySem PySem.Spec PyProof.Rows L2
/-! ### built-in calls of one value -/
def f1N : F1 → Str
  | .len => "len" | .abs => "abs" | .int => "int" | .tuple => "tuple" | .list => "list" | .all => "all" | .any => "any" | .sum => "sum" | .sorted => "sorted" | .max => "max" | .min => "min"
def f1V : F1 → Value
  | .len => .builtin "len" | .abs => .builtin "abs" | .int => .type "int" | .tuple => .type "tuple" | .list => .type "list" | .all => .builtin "all" | .any => .builtin "any" | .sum => .builtin "sum" | .sorted => .builtin "sorted" | .max => .builtin "max" | .min => .builtin "min"
theorem f1_boot (f : F1) : bootBuiltins (f1N f) = some (f1V f) := by cases f <;> decide +kernel
def rF1 (K : PySem.W.Frag) : F1 → List V → Hp → VK → Prop
  | .len => fun xs H Q => ∃ p ys, xs = [.ref p] ∧ (SqL K H p ys ∨ SqT K H p ys) ∧ Q (.int ys.length) H
  | .abs => fun xs H Q => ∃ i, xs = [.int i] ∧ Q (.int (if i < 0 then -i else i)) H
  | .int => fun xs H Q => (∃ i, xs = [.int i] ∧ Q (.int i) H) ∨ ∃ k, xs = [.bl k] ∧ Q (.int (if k then 1 else 0)) H
  | .tuple => fun xs H Q => ∃ p ys, xs = [.ref p] ∧ ((SqL K H p ys ∧ ∀ l, H l = none → Q (.ref l) (upd H l (.tup ys))) ∨ (SqT K H p ys ∧ Q (.ref p) H))
  | .list => fun xs H Q => ∃ p ys, xs = [.ref p] ∧ (SqL K H p ys ∨ SqT K H p ys) ∧ ∀ l, H l = none → Q (.ref l) (upd H l (.lst ys))
  | .all => rAll K
  | .any => rAny K
  | .sum => rSum K
  | .sorted => fun xs H Q => rSortedI K xs H Q ∨ rSortR K xs H Q
  | .max => fun _ _ _ => False
  | .min => fun _ _ _ => False
theorem f1_call {X : Cx} (hc : X.calm = true) (f : F1) : CallR X (f1V f) (rF1 X.K f) := by
  cases f
  · exact call_len_seq
  · exact call_abs
  · exact call_int1
  · exact call_tuple_of
  · exact call_list_of
  · exact cr_all hc
  · exact cr_any hc
  · exact cr_sum hc
  · exact CallR.or cr_sortedI cr_sortR
  · exact fun _ _ _ _ _ _ _ _ _ h => False.elim h
  · exact fun _ _ _ _ _ _ _ _ _ h => False.elim h
theorem insI_perm (x : Int) : ∀ l : List Int, (insI x l).Perm (x :: l)
  | [] => List.Perm.refl _
  | y :: ys => by
    unfold insI
    split
    · exact List.Perm.refl _
    · exact ((insI_perm x ys).cons y).trans (List.Perm.swap x y ys)
theorem insI_sorted (x : Int) : ∀ {l : List Int}, l.Pairwise (· ≤ ·) → (insI x l).Pairwise (· ≤ ·)
  | [], _ => by simp [insI]
  | y :: ys, h => by
    unfold insI
    split
    · rename_i hxy
      refine List.pairwise_cons.mpr ⟨fun z hz => ?_, h⟩
      rcases List.mem_cons.mp hz with e | hz
      · omega
      · have := (List.pairwise_cons.mp h).1 z hz; omega
    · rename_i hxy
      obtain ⟨h1, h2⟩ := List.pairwise_cons.mp h
      refine List.pairwise_cons.mpr ⟨fun z hz => ?_, insI_sorted x h2⟩
      rcases List.mem_cons.mp ((insI_perm x ys).mem_iff.mp hz) with e | hz
      · omega
      · exact h1 z hz
theorem sortI_perm : ∀ l : List Int, (sortI l).Perm l
  | [] => List.Perm.refl _
  | x :: xs => (insI_perm x _).trans ((sortI_perm xs).cons x)
theorem sortI_sorted : ∀ l : List Int, (sortI l).Pairwise (· ≤ ·)
  | [] => List.Pairwise.nil
  | x :: xs => insI_sorted x (sortI_sorted xs)
theorem sumI_eq : ∀ l : List Int, sumI l = l.sum
  | [] => rfl
  | x :: xs => by rw [List.sum_cons, ← sumI_eq xs]; rfl
section
variable {K : PySem.W.Frag} {mg : Str → Option Value} {W : WX} {F G1 H H' : Hp} {m m' : List Addr} {h h' : Hd} {σ : L2.St} {ρ : En} {α β : Type}
theorem intsT_ok : ∀ {ts : List T} {ns : List Int} {xs : List V}, intsT ts = some ns → Rps K mg m H ts xs → xs = ns.map V.int
  | [], _, _, e, r => by cases e; cases r; rfl
  | .int i :: ts, ns, _, e, r => by
    obtain ⟨v, vs, rfl, r1, r2⟩ := r
    cases r1
    have e : (intsT ts).map (i :: ·) = some ns := e
    cases e2 : intsT ts with
    | none => rw [e2] at e; cases e
    | some ms => rw [e2] at e; cases e; rw [intsT_ok e2 r2]; rfl
  | .non :: _, _, _, e, _ => by cases e
  | .bl _ :: _, _, _, e, _ => by cases e
  | .str _ :: _, _, _, e, _ => by cases e
  | .tup _ :: _, _, _, e, _ => by cases e
  | .ref _ :: _, _, _, e, _ => by cases e
  | .fn _ :: _, _, _, e, _ => by cases e
  | .ty _ :: _, _, _, e, _ => by cases e
theorem bls_ok : ∀ {ts : List T} {ns : List Bool} {xs : List V}, bls ts = some ns → Rps K mg m H ts xs → xs = ns.map V.bl
  | [], _, _, e, r => by cases e; cases r; rfl
  | .bl i :: ts, ns, _, e, r => by
    obtain ⟨v, vs, rfl, r1, r2⟩ := r
    cases r1
    have e : (bls ts).map (i :: ·) = some ns := e
    cases e2 : bls ts with
    | none => rw [e2] at e; cases e
    | some ms => rw [e2] at e; cases e; rw [bls_ok e2 r2]; rfl
  | .non :: _, _, _, e, _ => by cases e
  | .int _ :: _, _, _, e, _ => by cases e
  | .str _ :: _, _, _, e, _ => by cases e
  | .tup _ :: _, _, _, e, _ => by cases e
  | .ref _ :: _, _, _, e, _ => by cases e
  | .fn _ :: _, _, _, e, _ => by cases e
  | .ty _ :: _, _, _, e, _ => by cases e
theorem rps_ints : ∀ ns : List Int, Rps K mg m H (ns.map .int) (ns.map V.int)
  | [] => rfl
  | n :: ns => .cons rfl (rps_ints ns)
/-- rows as trees -/
def rwT (r : List Int) : T := .tup (r.map .int)
theorem rp_row {r : List Int} {v : V} (h : Rp K mg m H (rwT r) v) : TupI K H v r := by
  obtain ⟨a, xs, rfl, hq, rs⟩ := h
  have : xs = r.map V.int := by
    clear hq
    induction r generalizing xs with
    | nil => exact rs
    | cons x r ih =>
      obtain ⟨v, vs, rfl, h1, h2⟩ := rs
      rw [ih vs h2]
      cases h1
      rfl
  subst this
  exact ⟨a, rfl, hq⟩
theorem intsT_eq : ∀ {ts : List T} {ns : List Int}, intsT ts = some ns → ts = ns.map T.int
  | [], _, e => by cases e; rfl
  | .int i :: ts, ns, e => by
    have e : (intsT ts).map (i :: ·) = some ns := e
    cases e2 : intsT ts with
    | none => rw [e2] at e; cases e
    | some ms => rw [e2] at e; cases e; rw [intsT_eq e2]; rfl
  | .non :: _, _, e => by cases e
  | .bl _ :: _, _, e => by cases e
  | .str _ :: _, _, e => by cases e
  | .tup _ :: _, _, e => by cases e
  | .fl _ :: _, _, e => by cases e
  | .ref _ :: _, _, e => by cases e
  | .fn _ :: _, _, e => by cases e
  | .ty _ :: _, _, e => by cases e
theorem tupsT_eq : ∀ {ts : List T} {l : List (List Int)}, tupsT ts = some l → ts = l.map rwT ∧ ∀ r ∈ l, r ≠ []
  | [], l, e => by cases e; exact ⟨rfl, fun r hr => by cases hr⟩
  | .tup us :: ts, l, e => by
    unfold tupsT at e
    split at e
    · rename_i n ns l' e1 e2
      cases e
      obtain ⟨h1, h2⟩ := tupsT_eq e2
      have e3 : us = (n :: ns).map T.int := intsT_eq e1
      refine ⟨by rw [h1, e3]; rfl, fun r hr => ?_⟩
      rcases List.mem_cons.mp hr with z | z
      · rw [z]; exact fun z => by cases z
      · exact h2 r z
    · cases e
  | .non :: _, _, e => by cases e
  | .bl _ :: _, _, e => by cases e
  | .int _ :: _, _, e => by cases e
  | .str _ :: _, _, e => by cases e
  | .fl _ :: _, _, e => by cases e
  | .ref _ :: _, _, e => by cases e
  | .fn _ :: _, _, e => by cases e
  | .ty _ :: _, _, e => by cases e
/-- a row turned over is told by a list turned over -/
theorem rps_perm {l : List (List Int)} : ∀ {xs ys : List V}, ys.Perm xs → ∀ {l : List (List Int)}, Rps K mg m H (l.map rwT) xs → ∃ l' : List (List Int), l'.Perm l ∧ Rps K mg m H (l'.map rwT) ys := by
  intro xs ys p
  induction p with
  | nil => exact fun {l} r => ⟨l, List.Perm.refl _, r⟩
  | cons x p ih =>
    intro l r
    cases l with
    | nil => cases r
    | cons a l =>
      obtain ⟨v, vs, e, h1, h2⟩ := r
      cases e
      obtain ⟨l', p', r'⟩ := ih h2
      exact ⟨a :: l', p'.cons a, _, _, rfl, h1, r'⟩
  | swap x y zs =>
    intro l r
    cases l with
    | nil => cases r
    | cons a l =>
      obtain ⟨v, vs, e, h1, h2⟩ := r
      cases e
      cases l with
      | nil => cases h2
      | cons b l =>
        obtain ⟨v, vs, e, h3, h4⟩ := h2
        cases e
        exact ⟨b :: a :: l, List.Perm.swap a b l, _, _, rfl, h3, _, _, rfl, h1, h4⟩
  | trans p1 p2 ih1 ih2 =>
    intro l r
    obtain ⟨l1, q1, r1⟩ := ih2 r
    obtain ⟨l2, q2, r2⟩ := ih1 r1
    exact ⟨l2, q2.trans q1, r2⟩
theorem rps_up : ∀ {l : List (List Int)} {ys : List V}, Rps K mg m H (l.map rwT) ys → ys.Pairwise (fun x y => ∀ n m, TupI K H x n → TupI K H y m → lexL m n = false) → UpL l
  | [], _, _, _ => List.Pairwise.nil
  | a :: l, ys, r, h => by
    obtain ⟨v, vs, rfl, h1, h2⟩ := r
    have h' := List.pairwise_cons.mp h
    refine List.pairwise_cons.mpr ⟨fun b hb => ?_, rps_up h2 h'.2⟩
    obtain ⟨u, hu, ru⟩ : ∃ u ∈ vs, Rp K mg m H (rwT b) u := by
      clear h h' h1
      induction l generalizing vs with
      | nil => cases hb
      | cons c l ih =>
        obtain ⟨u, us, rfl, r1, r2⟩ := h2
        rcases List.mem_cons.mp hb with z | z
        · subst z; exact ⟨u, List.mem_cons_self, r1⟩
        · obtain ⟨w, hw, rw'⟩ := ih us r2 z
          exact ⟨w, List.mem_cons_of_mem _ hw, rw'⟩
    exact h'.1 u hu a b (rp_row h1) (rp_row ru)
theorem tupsT_ok {ts : List T} {l : List (List Int)} {xs : List V} (e : tupsT ts = some l) (r : Rps K mg m H ts xs) : (∀ x ∈ xs, ∃ ns, TupI K H x ns ∧ ns ≠ []) ∧
    ∀ ys : List V, ys.Perm xs → ys.Pairwise (fun x y => ∀ n m, TupI K H x n → TupI K H y m → lexL m n = false) → ∃ l', l' = sortL l ∧ Rps K mg m H (l'.map fun r => T.tup (r.map .int)) ys := by
  obtain ⟨e1, hne⟩ := tupsT_eq e
  rw [e1] at r
  refine ⟨?_, fun ys p hu => ?_⟩
  · clear e e1
    induction l generalizing xs with
    | nil => cases r; exact fun x hx => by cases hx
    | cons a l ih =>
      obtain ⟨v, vs, rfl, h1, h2⟩ := r
      intro x hx
      rcases List.mem_cons.mp hx with z | z
      · rw [z]; exact ⟨a, rp_row h1, hne a List.mem_cons_self⟩
      · exact ih h2 (fun r hr => hne r (List.mem_cons_of_mem _ hr)) x z
  · obtain ⟨l', p', r'⟩ := rps_perm (l := l) p r
    exact ⟨l', upL_uniq (rps_up r' hu) (sortL_up l) (p'.trans (sortL_perm l).symm), r'⟩
theorem f1_ok (f : F1) {x z : VV} {v : V} {Q : VK} (s : Sim K mg m h H F) (rx : RpV K mg F m h H x v) (e : op1 f h x = some z) (q : ∀ H' u, Ext H H' → RpV K mg F m h H' z u → Q u H') : rF1 K f [v] H Q := by
  have lst : ∀ {β : Type} {g : List T → Option β} {y : β}, (match items h x with | some (true, ts) => g ts | _ => none) = some y → ∃ a xs ts, v = .ref a ∧ Rps K mg m H ts xs ∧ SqL K H a xs ∧ g ts = some y := fun {β g y} e => by
    cases e1 : items h x with
    | none => rw [e1] at e; cases e
    | some p =>
      obtain ⟨b, ts⟩ := p
      rw [e1] at e
      cases b with
      | false => cases e
      | true =>
        obtain ⟨a, xs, rfl, rs, (⟨_, hq⟩ | ⟨hb, _⟩)⟩ := items_ok s e1 rx
        · exact ⟨a, xs, ts, rfl, rs, hq, e⟩
        · cases hb
  have all : ∀ {g : Bool × List T → VV}, (items h x).map g = some z → ∃ a xs b ts, v = .ref a ∧ Rps K mg m H ts xs ∧ ((b = true ∧ SqL K H a xs) ∨ (b = false ∧ SqT K H a xs)) ∧ z = g (b, ts) := fun {g} e => by
    cases e1 : items h x with
    | none => rw [e1] at e; cases e
    | some p =>
      obtain ⟨b, ts⟩ := p
      rw [e1] at e
      cases e
      obtain ⟨a, xs, hv, rs, hq⟩ := items_ok s e1 rx
      exact ⟨a, xs, b, ts, hv, rs, hq, rfl⟩
  cases f with
  | len =>
    obtain ⟨a, xs, b, ts, rfl, rs, hq, rfl⟩ := all (g := fun p => .v (.int p.2.length)) e
    refine ⟨a, xs, rfl, hq.elim (fun z => .inl z.2) (fun z => .inr z.2), ?_⟩
    rw [← rs.length]
    exact q H _ (Ext.refl H) rfl
  | abs =>
    have e : absV x = some z := e
    unfold absV at e
    split at e
    · cases rx; cases e; exact ⟨_, rfl, q H _ (Ext.refl H) rfl⟩
    · cases e
  | int =>
    have e : intV x = some z := e
    unfold intV at e
    split at e
    · cases rx; cases e; exact .inl ⟨_, rfl, q H _ (Ext.refl H) rfl⟩
    · cases rx; cases e; exact .inr ⟨_, rfl, q H _ (Ext.refl H) rfl⟩
    · cases e
  | tuple =>
    obtain ⟨a, xs, b, ts, rfl, rs, hq, rfl⟩ := all (g := fun p => .v (.tup p.2)) e
    refine ⟨a, xs, rfl, ?_⟩
    rcases hq with ⟨_, hq⟩ | ⟨_, hq⟩
    · exact .inl ⟨hq, fun l hl => q _ _ (Ext.new _ hl) (new_t rs hl)⟩
    · exact .inr ⟨hq, q H _ (Ext.refl H) ⟨a, xs, rfl, hq, rs⟩⟩
  | list =>
    obtain ⟨a, xs, b, ts, rfl, rs, hq, rfl⟩ := all (g := fun p => .l p.2) e
    exact ⟨a, xs, rfl, hq.elim (fun z => .inl z.2) (fun z => .inr z.2), fun l hl => q _ _ (Ext.new _ hl) (new_l s rs hl)⟩
  | all =>
    obtain ⟨a, xs, ts, rfl, rs, hq, e2⟩ := lst (g := fun ts => (bls ts).map fun bs : List Bool => VV.v (.bl (bs.all id))) e
    cases e3 : bls ts with
    | none => rw [e3] at e2; cases e2
    | some bs =>
      rw [e3] at e2; cases e2
      rw [bls_ok e3 rs] at hq
      exact ⟨a, bs, rfl, hq, q H _ (Ext.refl H) rfl⟩
  | any =>
    obtain ⟨a, xs, ts, rfl, rs, hq, e2⟩ := lst (g := fun ts => (bls ts).map fun bs : List Bool => VV.v (.bl (bs.any id))) e
    cases e3 : bls ts with
    | none => rw [e3] at e2; cases e2
    | some bs =>
      rw [e3] at e2; cases e2
      rw [bls_ok e3 rs] at hq
      exact ⟨a, bs, rfl, hq, q H _ (Ext.refl H) rfl⟩
  | sum =>
    obtain ⟨a, xs, ts, rfl, rs, hq, e2⟩ := lst (g := fun ts => (intsT ts).map fun ns : List Int => VV.v (.int (sumI ns))) e
    cases e3 : intsT ts with
    | none => rw [e3] at e2; cases e2
    | some ns =>
      rw [e3] at e2; cases e2
      rw [intsT_ok e3 rs] at hq
      refine ⟨a, ns, rfl, hq, ?_⟩
      rw [← sumI_eq]
      exact q H _ (Ext.refl H) rfl
  | sorted =>
    obtain ⟨a, xs, ts, rfl, rs, hq, e2⟩ := lst (g := fun ts => match intsT ts with
      | some ns => some (VV.l ((sortI ns).map .int))
      | none => (tupsT ts).map fun l => VV.l ((sortL l).map fun r => .tup (r.map .int))) e
    cases e3 : intsT ts with
    | none =>
      rw [e3] at e2
      cases e4 : tupsT ts with
      | none => rw [e4] at e2; cases e2
      | some l =>
        rw [e4] at e2; cases e2
        obtain ⟨h1, h2⟩ := tupsT_ok e4 rs
        refine .inr ⟨a, xs, rfl, hq, h1, fun ys p hp hu hn => ?_⟩
        obtain ⟨l', hl', rl'⟩ := h2 ys hp hu
        rw [hl'] at rl'
        exact q _ _ (Ext.new _ hn) (new_l s rl' hn)
    | some ns =>
      rw [e3] at e2; cases e2
      rw [intsT_ok e3 rs] at hq
      refine .inl ⟨a, ns, rfl, hq, fun ns' p hp hs hn => ?_⟩
      have e4 : ns' = sortI ns := PySem.W.ksm_same (hp.trans (sortI_perm ns).symm) hs (sortI_sorted ns)
      subst e4
      exact q _ _ (Ext.new _ hn) (new_l s (rps_ints _) hn)
  | max => cases e
  | min => cases e
/-! two values -/
def f2N : F2 → Str
  | .max => "max" | .min => "min"
def f2V : F2 → Value
  | .max => .builtin "max" | .min => .builtin "min"
theorem f2_boot (f : F2) : bootBuiltins (f2N f) = some (f2V f) := by cases f <;> decide +kernel
def rF2 : F2 → List V → Hp → VK → Prop
  | .max => fun xs H Q => ∃ i j, xs = [.int i, .int j] ∧ Q (.int (if j > i then j else i)) H
  | .min => fun xs H Q => ∃ i j, xs = [.int i, .int j] ∧ Q (.int (if j < i then j else i)) H
theorem f2_call {X : Cx} (hc : X.calm = true) (f : F2) : CallR X (f2V f) (rF2 f) := by
  cases f
  · exact call_max2 hc
  · exact call_min2 hc
theorem f2_ok (f : F2) {x y z : VV} {v w : V} {Q : VK} (rx : RpV K mg F m h H x v) (ry : RpV K mg F m h H y w) (e : op2 f x y = some z) (q : ∀ H' u, Ext H H' → RpV K mg F m h H' z u → Q u H') : rF2 f [v, w] H Q := by
  unfold op2 at e
  split at e
  · cases rx
    cases ry
    cases f <;> (cases e; exact ⟨_, _, rfl, q H _ (Ext.refl H) rfl⟩)
  · cases e
end
end Pv
end

section
set_option Elab.async false
set_option linter.all false
set_option maxRecDepth 100000
set_option maxHeartbeats 4000000
namespace Pv
open PySem PySem.Spec PyProof.Rows L2

/-! ### syntax -/
def notStar : Expr → Bool
  | .Starred .. => false
  | _ => true
def notStars : List Expr → Bool
  | [] => true
  | e :: es => notStar e && notStars es
theorem star_cons {e : Expr} {es : List Expr} {env : Env} (h : notStar e = true) : starEach (e :: es) env = (false, eval e env) :: starEach es env := by
  cases e <;> first | rfl | (cases h)
theorem stars_plain {env : Env} {pos : Pos} : ∀ {es : List Expr}, notStars es = true → (backTo pos (starEach es env)).any (·.1) = false
  | [], _ => rfl
  | e :: es, h => by
    have h : (notStar e && notStars es) = true := h
    rw [Bool.and_eq_true] at h
    rw [star_cons h.1]
    show (false || (backTo pos (starEach es env)).any (·.1)) = false
    rw [stars_plain h.2]; rfl
def notSlice : Expr → Bool
  | .Slice .. => false
  | _ => true
theorem plainIx {b : Expr} (h : notSlice b = true) : L2.PlainIx b := fun o i => by
  cases b <;> first | rfl | (cases h)
def plainTest : Expr → Bool
  | .UnaryOp .Not _ _ | .BoolOp .. | .IfExp .. | .Compare .. => false
  | _ => true
theorem isTrue_of {a : Expr} {env : Env} (h : plainTest a = true) : ∀ whole, isTrue a env whole = (do let v ← whole; standAt a.pos; holding [v] (truthy v)) := fun whole => by
  cases a with
  | UnaryOp op x p => cases op <;> first | rfl | (cases h)
  | BoolOp => cases h
  | IfExp => cases h
  | Compare => cases h
  | _ => rfl

section
variable {X : Cx} {W : WX} {a b c e : Expr} {es : List Expr} {pos p p2 : Pos} {fa fb fc : En → Hd → Res VV}
abbrev SE (X : Cx) (W : WX) (e : Expr) (f : En → Hd → Res VV) : Prop := PE X e (rdE X.K X.mg W f)
abbrev SA (X : Cx) (W : WX) (es : List Expr) (f : En → Hd → Res (List T)) : Prop := PA X es (rdA X.K X.mg W f)
abbrev ST (X : Cx) (W : WX) (e : Expr) (f : En → Hd → Res Bool) : Prop := PT X e (rdB X.K X.mg W f)
theorem s_slot {i : Nat} {x : Str} (hN : X.N[i]? = some x) (hv : Vis X.env.scope x) (hd : (x == ("__debug__" : Str)) = false) (hcd : (x == ("__classdict__" : Str)) = false) : SE X W (.Name x pos) (fun ρ h => match ρ[i]? with | some (some t) => .ok (.v t) h | _ => .fail) :=
  (pe_var hN hv hd hcd).imp fun σ H Q ⟨ρ, m, h, F, r, s, a⟩ => by
    have a : Ans X.K X.mg W F m H σ (match ρ[i]? with | some (some t) => Res.ok (VV.v t) h | _ => .fail) _ := a
    cases q : ρ[i]? with
    | none => rw [q] at a; exact False.elim a
    | some o =>
      cases o with
      | none => rw [q] at a; exact False.elim a
      | some t =>
        rw [q] at a
        obtain ⟨v, e, rv⟩ := r.get i t q
        exact ⟨v, e, a.ok s v rv⟩
theorem s_non {j : Nat} : SE X W (.Constant .none j pos) (fun _ h => .ok (.v .non) h) := pe_non.imp fun σ H Q ⟨ρ, m, h, F, r, s, a⟩ => a.ok s _ rfl
theorem s_bl {k : Bool} {j : Nat} : SE X W (.Constant (.bool k) j pos) (fun _ h => .ok (.v (.bl k)) h) := pe_bl.imp fun σ H Q ⟨ρ, m, h, F, r, s, a⟩ => a.ok s _ rfl
theorem s_int {i : Int} {j : Nat} : SE X W (.Constant (.int i) j pos) (fun _ h => .ok (.v (.int i)) h) := pe_int.imp fun σ H Q ⟨ρ, m, h, F, r, s, a⟩ => a.ok s _ rfl
theorem s_str {x : Str} {j : Nat} : SE X W (.Constant (.str x) j pos) (fun _ h => .ok (.v (.str x)) h) := pe_str.imp fun σ H Q ⟨ρ, m, h, F, r, s, a⟩ => a.ok s _ rfl
/-- a global of known tree -/
def GlobOk (X : Cx) (x : Str) (t : T) : Prop := ∃ u v, X.mg x = some u ∧ RelV v u ∧ ∀ m H, Rp X.K X.mg m H t v
theorem s_glob {x : Str} {o : Option T} (hg : Gl X x) (hd : (x == ("__debug__" : Str)) = false) (ho : ∀ t, o = some t → GlobOk X x t) : SE X W (.Name x pos) (fun _ h => .of (o.map .v) h) := by
  cases o with
  | none => exact ⟨fun pins s σ H Q I ⟨ρ, m, h, F, r, si, a⟩ => False.elim a⟩
  | some t =>
    obtain ⟨u, v, hm, rv, rp⟩ := ho t rfl
    exact (pe_glob hg hm rv hd).imp fun σ H Q ⟨ρ, m, h, F, r, s, a⟩ => Ans.okv (x := .v t) s a v (rp m H)

/-! ### rows of expressions -/
theorem rd_resV {K : PySem.W.Frag} {mg : Str → Option Value} {F H : Hp} {m : List Addr} {h : Hd} {σ : L2.St} {f : En → Hd → Res VV} {ρ : En} {P : T → List Addr → Hd → Hp → Prop} (a : Ans K mg W F m H σ (resV (f ρ h)) P) :
    Ans K mg W F m H σ (f ρ h) fun x m' h' H' => ∀ v, RpV K mg F m' h' H' x v → ∃ m2, Pre m' m2 ∧ Sim K mg m2 (alloc x h').2 H' F ∧ Rp K mg m2 H' (alloc x h').1 v ∧ P (alloc x h').1 m2 (alloc x h').2 H' := by
  unfold resV at a
  refine a.bind.imp fun x m' h' H' p t s a1 v rv => ?_
  obtain ⟨m2, p2, s2, r2⟩ := s.alloc rv
  exact ⟨m2, p2, s2, r2, a1 m2 H' p2 (Tups.refl _) s2⟩
theorem sa_nil : SA X W [] (fun _ h => .ok [] h) := pa_nil.imp fun σ H Q ⟨ρ, m, h, F, r, s, a⟩ => a.ok s _ rfl
theorem sa_cons {g : En → Hd → Res (List T)} (hs : notStar e = true) (he : SE X W e fa) (hes : SA X W es g) : SA X W (e :: es) (fun ρ h => (resV (fa ρ h)).bind fun t h => (g ρ h).bind fun ts h => .ok (t :: ts) h) :=
  (pa_cons he hes (star_cons hs)).imp fun σ H Q ⟨ρ, m, h, F, r, s, a⟩ => by
    refine ⟨ρ, m, h, F, r, s, (rd_resV a.bind).imp fun x m1 h1 H1 p t s1 hx v rv => ?_⟩
    obtain ⟨m2, p2, s2, r2, a2⟩ := hx v rv
    refine ⟨ρ, m2, _, F, r.mono (p.trans p2) t, s2, a2.bind.imp fun ts m3 h3 H3 p3 t3 s3 a3 vs rvs => ?_⟩
    exact a3.ok s3 _ ⟨v, vs, rfl, Rp.mono p3 t3 _ _ r2, rvs⟩
theorem tupOf_ok {x : VV} {us : List T} (h : tupOf x = some us) : x = .v (.tup us) := by
  unfold tupOf at h
  split at h
  · cases h; rfl
  · cases h
theorem sa_star {g : En → Hd → Res (List T)} (he : SE X W e fa) (hes : SA X W es g) : SA X W (.Starred e p :: es) (fun ρ h => (fa ρ h).bind fun x h => match tupOf x with | some us => (g ρ h).bind fun ts h => .ok (us ++ ts) h | none => .fail) :=
  (StX.pa_star he hes).imp fun σ H Q ⟨ρ, m, h, F, r, s, a⟩ => by
    refine rd1 r s a fun x m1 h1 H1 v p1 r1 s1 rv a1 => ?_
    cases q : tupOf x with
    | none => rw [q] at a1; exact False.elim a1
    | some us =>
      rw [q] at a1
      have := tupOf_ok q
      subst this
      obtain ⟨ad, xs, rfl, hq, rs⟩ := rv
      refine ⟨ad, xs, rfl, .inl hq, ⟨ρ, m1, h1, F, r1, s1, a1.bind.imp fun ts m3 h3 H3 p3 t3 s3 a3 vs rvs => ?_⟩⟩
      exact a3.ok s3 _ ((Rps.mono p3 t3 _ _ rs).append rvs)
theorem few_ok {α : Type} {ts : List T} {a z : α} (h : few ts a = some z) : ts.length ≤ sizeLine ∧ z = a := by
  unfold few at h
  split at h
  · rename_i hl; cases h; exact ⟨by rw [sizeLine_eq]; exact hl, rfl⟩
  · cases h
theorem s_tup {j : Nat} {g : En → Hd → Res (List T)} (hes : SA X W es g) : SE X W (.Tuple es j pos) (fun ρ h => (g ρ h).bind fun ts h => .of (few ts (.v (.tup ts))) h) :=
  (pe_tup hes).imp fun σ H Q ⟨ρ, m, h, F, r, s, a⟩ => by
    refine ⟨ρ, m, h, F, r, s, a.bind.imp fun ts m1 h1 H1 p1 t1 s1 a1 vs rvs => ?_⟩
    cases q : few ts (VV.v (.tup ts)) with
    | none => rw [q] at a1; exact False.elim a1
    | some z =>
      rw [q] at a1
      obtain ⟨hl, rfl⟩ := few_ok q
      refine ⟨by rw [← rvs.length]; exact hl, fun ad hp => ?_⟩
      exact a1 m1 _ (Pre.refl _) (Ext.new _ hp).tups (s1.ext (Ext.new _ hp)) _ (new_t (h := h1) (F := F) rvs hp)
theorem s_lst {g : En → Hd → Res (List T)} (hes : SA X W es g) : SE X W (.List es pos) (fun ρ h => (g ρ h).bind fun ts h => .of (few ts (.l ts)) h) :=
  (pe_lst hes).imp fun σ H Q ⟨ρ, m, h, F, r, s, a⟩ => by
    refine ⟨ρ, m, h, F, r, s, a.bind.imp fun ts m1 h1 H1 p1 t1 s1 a1 vs rvs => ?_⟩
    cases q : few ts (VV.l ts) with
    | none => rw [q] at a1; exact False.elim a1
    | some z =>
      rw [q] at a1
      obtain ⟨hl, rfl⟩ := few_ok q
      refine ⟨by rw [← rvs.length]; exact hl, fun ad hp => ?_⟩
      exact a1 m1 _ (Pre.refl _) (Ext.new _ hp).tups (s1.ext (Ext.new _ hp)) _ (new_l s1 rvs hp)

/-! ### operators -/
theorem s_bin (o : Bop) (ha : SE X W a fa) (hb : SE X W b fb) : SE X W (.BinOp a (bopO o) b pos) (fun ρ h => (fa ρ h).bind fun x h => (fb ρ h).bind fun y h => .of (opB o h x y) h) := (pe_op (op_bop o) ha hb).imp (rd_op (bop_ok o))
theorem s_cmp (hu : X.A.units + 65 < cLine) (o : Cop) (ha : SE X W a fa) (hb : SE X W b fb) (hm : behindInMarks (copO o) b = false) :
    SE X W (.Compare a [copO o] [b] pos) (fun ρ h => (fa ρ h).bind fun x h => (fb ρ h).bind fun y h => .of ((opC o h x y).map fun b => .v (.bl b)) h) := (pe_cmpR (op_cop hu o) ha hb hm).imp (rd_op (cop_ok o))
theorem s_ix (hs : notSlice b = true) (ha : SE X W a fa) (hb : SE X W b fb) : SE X W (.Subscript a b pos) (fun ρ h => (fa ρ h).bind fun x h => (fb ρ h).bind fun y h => .of (opIx h x y) h) := (pe_ix ix_A ha hb (plainIx hs)).imp (rd_op ix_ok)
theorem isNon_ok {K : PySem.W.Frag} {mg : Str → Option Value} {F H : Hp} {m : List Addr} {h : Hd} {x : VV} {v : V} (r : RpV K mg F m h H x v) : decide (v = .non) = isNon x := by
  cases x with
  | l ts => obtain ⟨a, xs, rfl, _⟩ := r; rfl
  | v t =>
    cases t with
    | tup ts => obtain ⟨a, xs, rfl, _⟩ := r; rfl
    | fl ts => obtain ⟨a, xs, rfl, _⟩ := r; rfl
    | ref i => obtain ⟨a, _, rfl⟩ := r; rfl
    | fn x => obtain ⟨f, _, rfl⟩ := r; rfl
    | _ => cases r; rfl
theorem s_isN {j : Nat} (ha : SE X W a fa) : SE X W (.Compare a [.Is] [.Constant .none j p] pos) (fun ρ h => (fa ρ h).bind fun x h => .ok (.v (.bl (isNon x))) h) :=
  (pe_cmp (pc_isN ha)).imp fun σ H Q ⟨ρ, m, h, F, r, s, a⟩ => rd1 r s a fun x m1 h1 H1 v p1 r1 s1 rv a1 => by
    rw [isNon_ok rv]; exact a1.ok s1 _ rfl
theorem s_notN {j : Nat} (ha : SE X W a fa) : SE X W (.Compare a [.IsNot] [.Constant .none j p] pos) (fun ρ h => (fa ρ h).bind fun x h => .ok (.v (.bl (!isNon x))) h) :=
  (pe_cmp (pc_notN ha)).imp fun σ H Q ⟨ρ, m, h, F, r, s, a⟩ => rd1 r s a fun x m1 h1 H1 v p1 r1 s1 rv a1 => by
    rw [isNon_ok rv]; exact a1.ok s1 _ rfl
theorem s_and {rest : List Expr} (ha : SE X W a fa) (hb : SE X W (.BoolOp .And (b :: rest) pos) fb) : SE X W (.BoolOp .And (a :: b :: rest) pos) (fun ρ h => (fa ρ h).bind fun x h => match truth h x with
    | some true => fb ρ h
    | some false => .ok x h
    | none => .fail) :=
  (pe_andT ha hb).imp fun σ H Q ⟨ρ, m, h, F, r, s, a⟩ => rd1 r s a fun x m1 h1 H1 v p1 r1 s1 rv a1 => by
    cases q : truth h1 x with
    | none => rw [q] at a1; exact False.elim a1
    | some k =>
      rw [q] at a1
      refine ⟨k, truth_ok s1 q rv, ?_⟩
      cases k with
      | true => exact ⟨ρ, m1, h1, F, r1, s1, a1⟩
      | false => exact a1.ok s1 v rv
theorem s_or {rest : List Expr} (ha : SE X W a fa) (hb : SE X W (.BoolOp .Or (b :: rest) pos) fb) : SE X W (.BoolOp .Or (a :: b :: rest) pos) (fun ρ h => (fa ρ h).bind fun x h => match truth h x with
    | some true => .ok x h
    | some false => fb ρ h
    | none => .fail) :=
  (pe_orT ha hb).imp fun σ H Q ⟨ρ, m, h, F, r, s, a⟩ => rd1 r s a fun x m1 h1 H1 v p1 r1 s1 rv a1 => by
    cases q : truth h1 x with
    | none => rw [q] at a1; exact False.elim a1
    | some k =>
      rw [q] at a1
      refine ⟨k, truth_ok s1 q rv, ?_⟩
      cases k with
      | true => exact a1.ok s1 v rv
      | false => exact ⟨ρ, m1, h1, F, r1, s1, a1⟩
theorem s_one {op : BoolOp} (ha : SE X W a fa) : SE X W (.BoolOp op [a] pos) fa := pe_one ha
theorem s_not (ha : SE X W a fa) : SE X W (.UnaryOp .Not a pos) (fun ρ h => (fa ρ h).bind fun x h => .of ((truth h x).map fun b => .v (.bl (!b))) h) :=
  (pe_notT ha).imp fun σ H Q ⟨ρ, m, h, F, r, s, a⟩ => rd1 r s a fun x m1 h1 H1 v p1 r1 s1 rv a1 => by
    cases q : truth h1 x with
    | none => rw [q] at a1; exact False.elim a1
    | some k => rw [q] at a1; exact ⟨k, truth_ok s1 q rv, Ans.okv (x := .v (.bl (!k))) s1 a1 _ rfl⟩
theorem intOf_ok {x : VV} {i : Int} (h : intOf x = some i) : x = .v (.int i) := by
  unfold intOf at h
  split at h
  · cases h; rfl
  · cases h
theorem s_neg (ha : SE X W a fa) : SE X W (.UnaryOp .USub a pos) (fun ρ h => (fa ρ h).bind fun x h => .of ((intOf x).map fun i => .v (.int (-i))) h) :=
  (pe_un un_neg ha).imp fun σ H Q ⟨ρ, m, h, F, r, s, a⟩ => rd1 r s a fun x m1 h1 H1 v p1 r1 s1 rv a1 => by
    cases q : intOf x with
    | none => rw [q] at a1; exact False.elim a1
    | some i =>
      rw [q] at a1
      have := intOf_ok q
      subst this
      cases rv
      exact ⟨i, rfl, Ans.okv (x := .v (.int (-i))) s1 a1 _ rfl⟩

/-! ### tests -/
def tstV (f : En → Hd → Res VV) : En → Hd → Res Bool := fun ρ h => (f ρ h).bind fun x h => .of (truth h x) h
theorem t_plain (hp : plainTest a = true) (ha : SE X W a fa) : ST X W a (tstV fa) :=
  (pt_truth ha (isTrue_of hp)).imp fun σ H Q ⟨ρ, m, h, F, r, s, a⟩ => rd1 r s a fun x m1 h1 H1 v p1 r1 s1 rv a1 => by
    cases q : truth h1 x with
    | none => rw [q] at a1; exact False.elim a1
    | some k => rw [q] at a1; exact ⟨k, truth_ok s1 q rv, Ans.ok (x := k) s1 a1⟩
theorem t_not {g : En → Hd → Res Bool} (ha : ST X W a g) : ST X W (.UnaryOp .Not a pos) (fun ρ h => (g ρ h).bind fun b h => .ok (!b) h) :=
  (pt_not ha).imp fun σ H Q ⟨ρ, m, h, F, r, s, a⟩ => ⟨ρ, m, h, F, r, s, a.bind.imp fun b m1 h1 H1 p1 t1 s1 a1 => a1.ok s1⟩
abbrev SW (X : Cx) (W : WX) (e : Expr) (f : En → Hd → Res Bool) : Prop := PW X e (rdB X.K X.mg W f)
theorem w_and1 {g : En → Hd → Res Bool} (ha : ST X W a g) : SW X W (.BoolOp .And [a] pos) g := pw_and1 ha
theorem w_or1 {g : En → Hd → Res Bool} (ha : ST X W a g) : SW X W (.BoolOp .Or [a] pos) g := pw_or1 ha
theorem w_and {rest : List Expr} {g g' : En → Hd → Res Bool} (ha : ST X W a g) (hb : SW X W (.BoolOp .And (b :: rest) pos) g') : SW X W (.BoolOp .And (a :: b :: rest) pos) (fun ρ h => (g ρ h).bind fun k h => if k then g' ρ h else .ok false h) :=
  (pw_and ha hb).imp fun σ H Q ⟨ρ, m, h, F, r, s, a⟩ => ⟨ρ, m, h, F, r, s, a.bind.imp fun k m1 h1 H1 p1 t1 s1 a1 => by
    cases k with
    | true => exact ⟨ρ, m1, h1, F, r.mono p1 t1, s1, a1⟩
    | false => exact Ans.ok (x := false) s1 a1⟩
theorem w_or {rest : List Expr} {g g' : En → Hd → Res Bool} (ha : ST X W a g) (hb : SW X W (.BoolOp .Or (b :: rest) pos) g') : SW X W (.BoolOp .Or (a :: b :: rest) pos) (fun ρ h => (g ρ h).bind fun k h => if k then .ok true h else g' ρ h) :=
  (pw_or ha hb).imp fun σ H Q ⟨ρ, m, h, F, r, s, a⟩ => ⟨ρ, m, h, F, r, s, a.bind.imp fun k m1 h1 H1 p1 t1 s1 a1 => by
    cases k with
    | true => exact Ans.ok (x := true) s1 a1
    | false => exact ⟨ρ, m1, h1, F, r.mono p1 t1, s1, a1⟩⟩
/-- a value that is a truth, as a test -/
theorem t_bl {t : TE} {f : En → Hd → Res VV} (ht : PT X a (tTest t)) (hi : ∀ σ H Q, rdE X.K X.mg W f σ H Q → t σ H Q) (hb : ∀ ρ h x h', f ρ h = .ok x h' → ∃ k, x = .v (.bl k)) : ST X W a (tstV f) :=
  ht.imp fun σ H Q ⟨ρ, m, h, F, r, s, a⟩ => hi σ H _ ⟨ρ, m, h, F, r, s, by
    unfold tstV at a
    have a := a.bind
    cases e : f ρ h with
    | fail => rw [e] at a; exact a
    | err c q h' => rw [e] at a; exact a
    | ok x h' =>
      rw [e] at a
      obtain ⟨k, rfl⟩ := hb ρ h x h' e
      intro m' H' p t s' v rv
      cases rv
      exact ⟨k, rfl, Ans.ok (x := k) s' (a m' H' p t s')⟩⟩
theorem t_cmp (hu : X.A.units + 65 < cLine) (o : Cop) (ha : SE X W a fa) (hb : SE X W b fb) (hm : behindInMarks (copO o) b = false) :
    ST X W (.Compare a [copO o] [b] pos) (tstV fun ρ h => (fa ρ h).bind fun x h => (fb ρ h).bind fun y h => .of ((opC o h x y).map fun b => .v (.bl b)) h) :=
  t_bl (pt_cmpR (op_cop hu o) ha hb hm) (rd_op (cop_ok o)) fun ρ h x h' e => by
    cases e1 : fa ρ h with
    | fail => rw [e1] at e; cases e
    | err c q h' => rw [e1] at e; cases e
    | ok x1 h1 =>
      rw [e1] at e
      have e : (fb ρ h1).bind (fun y h => Res.of ((opC o h x1 y).map fun b => VV.v (.bl b)) h) = .ok x h' := e
      cases e2 : fb ρ h1 with
      | fail => rw [e2] at e; cases e
      | err c q h' => rw [e2] at e; cases e
      | ok x2 h2 =>
        rw [e2] at e
        have e : Res.of ((opC o h2 x1 x2).map fun b => VV.v (.bl b)) h2 = .ok x h' := e
        cases e3 : opC o h2 x1 x2 with
        | none => rw [e3] at e; cases e
        | some k => rw [e3] at e; cases e; exact ⟨k, rfl⟩
end
end Pv
end

section
set_option Elab.async false
set_option linter.all false
set_option maxRecDepth 100000
set_option maxHeartbeats 4000000
namespace Pv
open PySem PySem.Spec PyProof.Rows L2
section
variable {K : PySem.W.Frag} {mg : Str → Option Value} {W : WX} {F G1 H H' : Hp} {m m' : List Addr} {h h' : Hd} {σ : L2.St} {ρ : En} {α β : Type}
/-- a list just made is not among the heap's own -/
theorem Sim.notIn {G : Hp} (s : Sim K mg m h H G) {a : Addr} {xs : List V} (g : G a = some (.lst xs)) : ∀ i, (h.get i).isSome = true → m[i]? ≠ some a := fun i hi e => by
  obtain ⟨o, eo⟩ := Option.isSome_iff_exists.mp hi
  obtain ⟨b, eb, rb⟩ := s.obj i o eo
  rw [e] at eb; cases eb
  cases o with
  | lst us =>
    have := s.sep i us a eo e
    rw [g] at this; cases this
theorem Sim.hold2 {x y : VV} {v w : V} (s : Sim K mg m h H F) (rx : RpV K mg F m h H x v) (ry : RpV K mg F m h H y w) :
    ∃ F2, Ext F F2 ∧ Sim K mg m h H F2 ∧ ∀ m' h' H', Pre m m' → Tups H H' → Sim K mg m' h' H' F2 → RpV K mg F m' h' H' x v ∧ RpV K mg F m' h' H' y w := by
  obtain ⟨F1, ex, s1, k1⟩ := s.hold rx
  cases y with
  | v t => exact ⟨F1, ex, s1, fun m' h' H' p t' s' => ⟨k1 m' h' H' p t' s', Rp.mono p t' _ _ ry⟩⟩
  | l us =>
    obtain ⟨b, ys, rfl, hb, rs, fb, nb⟩ := ry
    by_cases hq : F1 b = none
    · obtain ⟨F2, ex2, s2, k2⟩ := s1.hold (x := .l us) ⟨b, ys, rfl, hb, rs, hq, nb⟩
      refine ⟨F2, ex.trans ex2, s2, fun m' h' H' p t' s' => ⟨k1 m' h' H' p t' (s'.less ex2), (k2 m' h' H' p t' s').less ex⟩⟩
    · obtain ⟨o, eo⟩ := Option.ne_none_iff_exists'.mp hq
      have eo2 := s1.fr b o eo
      rw [hb] at eo2; cases eo2
      exact ⟨F1, ex, s1, fun m' h' H' p t' s' => ⟨k1 m' h' H' p t' s', b, ys, rfl, s'.fr b _ eo, Rps.mono p t' _ _ rs, fb, s'.notIn eo⟩⟩
end
section
variable {X : Cx} {W : WX} {a b c e : Expr} {es : List Expr} {pos p p2 : Pos} {fa fb fc : En → Hd → Res VV}
theorem rd_chain (o o' : Cop) : ∀ σ H Q, rdE X.K X.mg W (fun ρ h => (fa ρ h).bind fun x h => (fb ρ h).bind fun y h => match opC o h x y with
    | some true => (fc ρ h).bind fun z h => .of ((opC o' h y z).map fun b => .v (.bl b)) h
    | some false => .ok (.v (.bl false)) h
    | none => .fail) σ H Q → tChain (rCop X.K o) (rCop X.K o') (rdE X.K X.mg W fa) (rdE X.K X.mg W fb) (rdE X.K X.mg W fc) σ H Q := fun σ H Q ⟨ρ, m, h, F, r, s, a⟩ => by
  refine rd2 r s a fun x y m1 h1 H1 v w p1 r1 s1 rv rw' a1 => ?_
  cases q : opC o h1 x y with
  | none => rw [q] at a1; exact False.elim a1
  | some k =>
    rw [q] at a1
    refine cop_ok (K := X.K) (mg := X.mg) o m1 h1 H1 F x y v w (.v (.bl k)) _ s1 rv rw' (by show (opC o h1 x y).map _ = _; rw [q]; rfl) fun H2 u e2 ru => ?_
    cases ru
    refine ⟨k, rfl, ?_⟩
    cases k with
    | false => exact Ans.okv (x := .v (.bl false)) (s1.ext e2) (show Ans X.K X.mg W F m1 H2 σ (.ok (VV.v (.bl false)) h1) _ from fun m' H' p t s' => a1 m' H' p (e2.tups.trans t) s') _ rfl
    | true =>
      have a2 := Ans.later (r := (fc ρ h1).bind fun z h => Res.of ((opC o' h y z).map fun b => VV.v (.bl b)) h) e2.tups a1
      have ry := rw'.ext e2
      obtain ⟨F1, ex, sF, keep⟩ := (s1.ext e2).hold ry
      refine ⟨ρ, m1, h1, F1, r1.mono (Pre.refl _) e2.tups, sF, (a2.bind.fr ex).imp fun z m3 h3 H3 p3 t3 s3 ⟨s3', a3⟩ u rz => ?_⟩
      have ry3 := keep m3 h3 H3 p3 t3 s3
      cases q3 : opC o' h3 y z with
      | none => rw [q3] at a3; exact False.elim a3
      | some k3 =>
        rw [q3] at a3
        exact cop_ok (K := X.K) (mg := X.mg) o' m3 h3 H3 F y z w u (.v (.bl k3)) _ s3' ry3 (rz.less ex) (by show (opC o' h3 y z).map _ = _; rw [q3]; rfl) fun H4 u4 e4 ru4 => a3 m3 H4 (Pre.refl _) e4.tups (s3'.ext e4) u4 ru4
theorem lastM {op op' : CmpOp} (h : behindInMarks op' c = false) : lastMarks [op, op'] [b, c] = false := h
theorem s_chain (hu : X.A.units + 65 < cLine) (o o' : Cop) (ha : SE X W a fa) (hb : SE X W b fb) (hc : SE X W c fc) (hm : behindInMarks (copO o') c = false) :
    SE X W (.Compare a [copO o, copO o'] [b, c] pos) (fun ρ h => (fa ρ h).bind fun x h => (fb ρ h).bind fun y h => match opC o h x y with
    | some true => (fc ρ h).bind fun z h => .of ((opC o' h y z).map fun b => .v (.bl b)) h
    | some false => .ok (.v (.bl false)) h
    | none => .fail) := (pe_chain (op_cop hu o) (op_cop hu o') ha hb hc (lastM hm)).imp (rd_chain o o')
theorem t_chain (hu : X.A.units + 65 < cLine) (o o' : Cop) (ha : SE X W a fa) (hb : SE X W b fb) (hc : SE X W c fc) (hm : behindInMarks (copO o') c = false) :
    ST X W (.Compare a [copO o, copO o'] [b, c] pos) (tstV fun ρ h => (fa ρ h).bind fun x h => (fb ρ h).bind fun y h => match opC o h x y with
    | some true => (fc ρ h).bind fun z h => .of ((opC o' h y z).map fun b => .v (.bl b)) h
    | some false => .ok (.v (.bl false)) h
    | none => .fail) := t_bl (pt_chain (op_cop hu o) (op_cop hu o') ha hb hc (lastM hm)) (rd_chain o o') fun ρ h x h' e => by
  cases e1 : fa ρ h with
  | fail => rw [e1] at e; cases e
  | err c q h' => rw [e1] at e; cases e
  | ok x1 h1 =>
    rw [e1] at e
    simp only [Res.bind] at e
    cases e2 : fb ρ h1 with
    | fail => rw [e2] at e; cases e
    | err c q h' => rw [e2] at e; cases e
    | ok x2 h2 =>
      rw [e2] at e
      simp only at e
      cases e3 : opC o h2 x1 x2 with
      | none => rw [e3] at e; cases e
      | some k =>
        rw [e3] at e
        cases k with
        | false => cases e; exact ⟨false, rfl⟩
        | true =>
          simp only at e
          cases e4 : fc ρ h2 with
          | fail => rw [e4] at e; cases e
          | err c q h' => rw [e4] at e; cases e
          | ok x3 h3 =>
            rw [e4] at e
            simp only at e
            cases e5 : opC o' h3 x2 x3 with
            | none => rw [e5] at e; cases e
            | some k => rw [e5] at e; cases e; exact ⟨k, rfl⟩
theorem s_ite {g : En → Hd → Res Bool} (hc : ST X W c g) (ha : SE X W a fa) (hb : SE X W b fb) : SE X W (.IfExp c a b pos) (fun ρ h => (g ρ h).bind fun k h => if k then fa ρ h else fb ρ h) :=
  (pe_ifExp hc ha hb).imp fun σ H Q ⟨ρ, m, h, F, r, s, a⟩ => ⟨ρ, m, h, F, r, s, a.bind.imp fun k m1 h1 H1 p1 t1 s1 a1 => by
    cases k with
    | true => exact ⟨ρ, m1, h1, F, r.mono p1 t1, s1, a1⟩
    | false => exact ⟨ρ, m1, h1, F, r.mono p1 t1, s1, a1⟩⟩

/-! ### built-in calls -/
theorem blt_name {x : Str} (h : (["len", "abs", "int", "tuple", "list", "all", "any", "sum", "sorted", "max", "min"] : List Str).contains x = true) : x ≠ "__name__" ∧ (x == ("__debug__" : Str)) = false := by
  have : ∀ y ∈ (["len", "abs", "int", "tuple", "list", "all", "any", "sum", "sorted", "max", "min"] : List Str), y ≠ "__name__" ∧ (y == ("__debug__" : Str)) = false := by decide +kernel
  exact this x (by simpa using h)
theorem f1_name (f : F1) : f1N f ≠ "__name__" ∧ (f1N f == ("__debug__" : Str)) = false := by cases f <;> decide +kernel
theorem f2_name (f : F2) : f2N f ≠ "__name__" ∧ (f2N f == ("__debug__" : Str)) = false := by cases f <;> decide +kernel
def isB : Value → Option String
  | .builtin id => some id
  | _ => none
theorem pe_f1 {t : TE} (hc : X.calm = true) (f : F1) (hg : Gl X (f1N f)) (hm : X.mg (f1N f) = none) (hs : notStar a = true) (ha : PE X a t) : PE X (.Call (.Name (f1N f) p) [a] [] pos) (tCB (rF1 X.K f) (tCons t tNil)) := by
  have h := f1_call hc f
  have hv := f1_boot f
  have hn := f1_name f
  have pa := pa_cons ha pa_nil (star_cons hs)
  cases f <;> first
    | exact pe_callB h hg hm hv pa hn.1 hn.2 (star_cons hs) rfl
    | exact pe_callTy h hg hm hv pa hn.1 hn.2 (star_cons hs) rfl
theorem s_f1 (hc : X.calm = true) (f : F1) (hg : Gl X (f1N f)) (hm : X.mg (f1N f) = none) (hs : notStar a = true) (ha : SE X W a fa) : SE X W (.Call (.Name (f1N f) p) [a] [] pos) (fun ρ h => (fa ρ h).bind fun x h => .of (op1 f h x) h) :=
  (pe_f1 hc f hg hm hs ha).imp fun σ H Q ⟨ρ, m, h, F, r, s, a⟩ => rd1 r s a fun x m1 h1 H1 v p1 r1 s1 rv a1 => by
    cases q : op1 f h1 x with
    | none => rw [q] at a1; exact False.elim a1
    | some z => rw [q] at a1; exact f1_ok f s1 rv q fun H2 u e2 ru => a1 m1 H2 (Pre.refl _) e2.tups (s1.ext e2) u ru
theorem s_f2 (hc : X.calm = true) (f : F2) (hg : Gl X (f2N f)) (hm : X.mg (f2N f) = none) (hs : notStar a = true) (hs2 : notStar b = true) (ha : SE X W a fa) (hb : SE X W b fb) :
    SE X W (.Call (.Name (f2N f) p) [a, b] [] pos) (fun ρ h => (fa ρ h).bind fun x h => (fb ρ h).bind fun y h => .of (op2 f x y) h) := by
  have h := f2_call hc f
  have hv := f2_boot f
  have hn := f2_name f
  have pa := pa_cons ha (pa_cons hb pa_nil (star_cons hs2)) (star_cons hs)
  have key : PE X (.Call (.Name (f2N f) p) [a, b] [] pos) (tCB (rF2 f) (tCons (rdE X.K X.mg W fa) (tCons (rdE X.K X.mg W fb) tNil))) := by
    cases f <;> exact pe_callB h hg hm hv pa hn.1 hn.2 (star_cons hs) (stars_plain (by show (notStar b && true) = true; rw [hs2] <;> rfl))
  exact key.imp fun σ H Q ⟨ρ, m, h, F, r, s, a⟩ => rd2 r s a fun x y m1 h1 H1 v w p1 r1 s1 rv rw' a1 => by
    cases q : op2 f x y with
    | none => rw [q] at a1; exact False.elim a1
    | some z => rw [q] at a1; exact f2_ok f rv rw' q fun H2 u e2 ru => a1 m1 H2 (Pre.refl _) e2.tups (s1.ext e2) u ru

/-! ### isinstance -/
def tyNs : List String := ["int", "bool", "str", "tuple", "list"]
def tyAs : List String := ["NoneType", "bool", "int", "str", "tuple", "list"]
theorem kitB_all : ∀ x ∈ tyAs, ∀ y ∈ tyNs, kitB x y = some (isTy x y) := by decide +kernel
theorem ty_boot : ∀ y ∈ tyNs, bootBuiltins (Str.ofString y) = some (.type y) ∧ Str.ofString y ≠ "__name__" ∧ (Str.ofString y == ("__debug__" : Str)) = false := by decide +kernel
theorem kitAny_all {K : PySem.W.Frag} {x : String} (hx : x ∈ tyAs) : ∀ {ys : List String}, (∀ y ∈ ys, y ∈ tyNs) → PySem.W.kitAny K (.type x) (ys.map Value.type) = some (ys.any fun b => isTy x b)
  | [], _ => kitAny_nil
  | y :: ys, h => by
    rw [List.map_cons, List.any_cons]
    refine kitAny_cons (b := isTy x y) (kit_ty (kitB_all x hx y (h y List.mem_cons_self))) (fun e => ?_) (fun e => by rw [e] <;> rfl)
    rw [e, Bool.false_or]
    exact kitAny_all hx fun z hz => h z (List.mem_cons_of_mem _ hz)
theorem tyOf_ok {K : PySem.W.Frag} {mg : Str → Option Value} {F H : Hp} {m : List Addr} {h : Hd} {x : VV} {v : V} {t : String} (s : Sim K mg m h H F) (r : RpV K mg F m h H x v) (e : tyOf h x = some t) : t ∈ tyAs ∧ TyX K H v (.type t) := by
  cases x with
  | l ts => obtain ⟨a, xs, rfl, ha, _⟩ := r; cases e; exact ⟨by decide, .base (.lst ha)⟩
  | v u =>
    cases u with
    | non => cases r; cases e; exact ⟨by decide, .base .non⟩
    | bl _ => cases r; cases e; exact ⟨by decide, .base (.bl _)⟩
    | int _ => cases r; cases e; exact ⟨by decide, .base (.int _)⟩
    | str _ => cases r; cases e; exact ⟨by decide, .base (.str _)⟩
    | tup ts =>
      obtain ⟨a, xs, rfl, q, _⟩ := r
      cases e
      refine ⟨by decide, ?_⟩
      rcases q with (q | ⟨o, q⟩) | ⟨o, its, n, hk, hc, _⟩
      · exact .base (.tup q)
      · exact .fTuple q
      · exact .kTuple hk hc
    | fl ts =>
      obtain ⟨a, xs, rfl, q, _⟩ := r
      cases e
      refine ⟨by decide, ?_⟩
      rcases q with ⟨o, q⟩ | ⟨o, its, n, hk, hc, _⟩
      · exact .base (.frz q)
      · exact .kList hk hc
    | ref i =>
      obtain ⟨a, ea, rfl⟩ := r
      have e : (match h.get i with | some _ => some "list" | none => none) = some t := e
      cases eo : h.get i with
      | none => rw [eo] at e; cases e
      | some o =>
        rw [eo] at e; cases e
        obtain ⟨b, eb, ro⟩ := s.obj i o eo
        rw [ea] at eb; cases eb
        refine ⟨by decide, ?_⟩
        cases o with
        | lst ts => obtain ⟨xs, q, _⟩ := ro; exact .base (.lst q)
    | _ => cases e
theorem pe_ty {y : String} (hy : y ∈ tyNs) (hg : Gl X (Str.ofString y)) (hm : X.mg (Str.ofString y) = none) : PE X (.Name (Str.ofString y) pos) (tC (.ty y)) :=
  pe_bltn hg hm (ty_boot y hy).1 rfl (ty_boot y hy).2.1 (ty_boot y hy).2.2
theorem s_isi1 {y : String} (hy : y ∈ tyNs) (hg : Gl X (Str.ofString y)) (hm : X.mg (Str.ofString y) = none) (hgi : Gl X "isinstance") (hmi : X.mg "isinstance" = none) (hs : notStar a = true) (ha : SE X W a fa) :
    SE X W (.Call (.Name "isinstance" p) [a, .Name (Str.ofString y) p2] [] pos) (fun ρ h => (fa ρ h).bind fun x h => .of ((opIsi h x [y]).map fun b => .v (.bl b)) h) :=
  (pe_callB call_isi hgi hmi (by decide +kernel) (pa_cons ha (pa_cons (pe_ty hy hg hm) pa_nil) (star_cons hs)) (by decide) (by decide) (star_cons hs) rfl).imp fun σ H Q ⟨ρ, m, h, F, r, s, a⟩ => rd1 r s a fun x m1 h1 H1 v p1 r1 s1 rv a1 => by
    unfold opIsi at a1
    cases q : tyOf h1 x with
    | none => rw [q] at a1; exact False.elim a1
    | some t =>
      rw [q] at a1
      obtain ⟨ht, hx⟩ := tyOf_ok s1 rv q
      have a1 := Ans.okv (x := .v (.bl ([y].any fun b => isTy t b))) s1 a1 _ rfl
      have e1 : ([y].any fun b => isTy t b) = isTy t y := by simp
      rw [e1] at a1
      exact ⟨v, .ty y, .type t, .type y, isTy t y, rfl, .ty y, hx, kit_ty (kitB_all t ht y hy), a1⟩
/-- (T, ..) written -/
def tyTup (X : Cx) : List String → List Expr → Prop
  | [], es => es = []
  | y :: ys, es => ∃ q r, es = .Name (Str.ofString y) q :: r ∧ y ∈ tyNs ∧ Gl X (Str.ofString y) ∧ X.mg (Str.ofString y) = none ∧ tyTup X ys r
theorem pa_tys : ∀ (ys : List String) (es : List Expr), tyTup X ys es → PA X es (fun _ H Q => Q (ys.map V.ty) H)
  | [], es, h => by
    have h : es = [] := h
    subst h
    exact pa_nil
  | y :: ys, es, h => by
    obtain ⟨q, r, rfl, hy, hg, hm, hr⟩ := h
    exact pa_cons (pe_ty hy hg hm) (pa_tys ys r hr) rfl
theorem tyTup_mem : ∀ (ys : List String) (es : List Expr), tyTup X ys es → ∀ y ∈ ys, y ∈ tyNs
  | [], _, _, _, h => absurd h (by simp)
  | y :: ys, es, h, z, hz => by
    obtain ⟨q, r, rfl, hy, _, _, hr⟩ := h
    rcases List.mem_cons.mp hz with e | hz
    · rw [e]; exact hy
    · exact tyTup_mem ys r hr z hz
theorem paired_ty : ∀ ys : List String, Paired ClsV (ys.map V.ty) (ys.map Value.type)
  | [] => .nil
  | y :: ys => .cons (.ty y) (paired_ty ys)
theorem s_isiT {ys : List String} {j : Nat} (hl : ys.length ≤ 100) (ht : tyTup X ys es) (hgi : Gl X "isinstance") (hmi : X.mg "isinstance" = none) (hs : notStar a = true) (ha : SE X W a fa) :
    SE X W (.Call (.Name "isinstance" p) [a, .Tuple es j p2] [] pos) (fun ρ h => (fa ρ h).bind fun x h => .of ((opIsi h x ys).map fun b => .v (.bl b)) h) :=
  (pe_callB call_isiT hgi hmi (by decide +kernel) (pa_cons ha (pa_cons (pe_tup (pa_tys ys es ht)) pa_nil) (star_cons hs)) (by decide) (by decide) (star_cons hs) rfl).imp fun σ H Q ⟨ρ, m, h, F, r, s, a⟩ => rd1 r s a fun x m1 h1 H1 v p1 r1 s1 rv a1 => by
    refine ⟨by rw [List.length_map, sizeLine_eq]; omega, fun tp hp => ?_⟩
    unfold opIsi at a1
    cases q : tyOf h1 x with
    | none => rw [q] at a1; exact False.elim a1
    | some t =>
      rw [q] at a1
      have ex : Ext H1 (upd H1 tp (.tup (ys.map V.ty))) := Ext.new _ hp
      obtain ⟨htm, hx⟩ := tyOf_ok (s1.ext ex) (rv.ext ex) q
      exact ⟨v, tp, ys.map V.ty, .type t, ys.map Value.type, _, rfl, upd_same, paired_ty ys, hx, kitAny_all htm (tyTup_mem ys es ht), a1 m1 _ (Pre.refl _) ex.tups (s1.ext ex) _ rfl⟩

/-! ### slices -/
theorem s_slAll (ha : SE X W a fa) : SE X W (.Subscript a (.Slice none none none p2) pos) (fun ρ h => (fa ρ h).bind fun x h => .of (opSl h x none none) h) :=
  (pe_slice sl_X ha po_none po_none).imp fun σ H Q ⟨ρ, m, h, F, r, s, a⟩ => rd1 r s a fun x m1 h1 H1 v p1 r1 s1 rv a1 => by
    cases q : opSl h1 x none none with
    | none => rw [q] at a1; exact False.elim a1
    | some z => rw [q] at a1; exact sl_ok s1 rv q fun H2 u e2 ru => a1 m1 H2 (Pre.refl _) e2.tups (s1.ext e2) u ru
theorem s_slL (ha : SE X W a fa) (hb : SE X W b fb) : SE X W (.Subscript a (.Slice (some b) none none p2) pos) (fun ρ h => (fa ρ h).bind fun x h => (fb ρ h).bind fun y h => .of ((intOf y).bind fun i => opSl h x (some i) none) h) :=
  (pe_slice sl_X ha (po_some hb) po_none).imp fun σ H Q ⟨ρ, m, h, F, r, s, a⟩ => rd2 r s a fun x y m1 h1 H1 v w p1 r1 s1 rv rw' a1 => by
    cases qi : intOf y with
    | none => rw [qi] at a1; exact False.elim a1
    | some i =>
      rw [qi] at a1
      have := intOf_ok qi
      subst this
      cases rw'
      refine ⟨i, rfl, ?_⟩
      cases q : opSl h1 x (some i) none with
      | none => rw [show (some i).bind (fun i => opSl h1 x (some i) none) = opSl h1 x (some i) none from rfl, q] at a1; exact False.elim a1
      | some z =>
        rw [show (some i).bind (fun i => opSl h1 x (some i) none) = opSl h1 x (some i) none from rfl, q] at a1
        exact sl_ok s1 rv q fun H2 u e2 ru => a1 m1 H2 (Pre.refl _) e2.tups (s1.ext e2) u ru
theorem s_slU (ha : SE X W a fa) (hb : SE X W b fb) : SE X W (.Subscript a (.Slice none (some b) none p2) pos) (fun ρ h => (fa ρ h).bind fun x h => (fb ρ h).bind fun y h => .of ((intOf y).bind fun i => opSl h x none (some i)) h) :=
  (pe_slice sl_X ha po_none (po_some hb)).imp fun σ H Q ⟨ρ, m, h, F, r, s, a⟩ => rd2 r s a fun x y m1 h1 H1 v w p1 r1 s1 rv rw' a1 => by
    cases qi : intOf y with
    | none => rw [qi] at a1; exact False.elim a1
    | some i =>
      rw [qi] at a1
      have := intOf_ok qi
      subst this
      cases rw'
      refine ⟨i, rfl, ?_⟩
      cases q : opSl h1 x none (some i) with
      | none => rw [show (some i).bind (fun i => opSl h1 x none (some i)) = opSl h1 x none (some i) from rfl, q] at a1; exact False.elim a1
      | some z =>
        rw [show (some i).bind (fun i => opSl h1 x none (some i)) = opSl h1 x none (some i) from rfl, q] at a1
        exact sl_ok s1 rv q fun H2 u e2 ru => a1 m1 H2 (Pre.refl _) e2.tups (s1.ext e2) u ru
theorem s_slLU (ha : SE X W a fa) (hb : SE X W b fb) (hc : SE X W c fc) : SE X W (.Subscript a (.Slice (some b) (some c) none p2) pos) (fun ρ h => (fa ρ h).bind fun x h => (fb ρ h).bind fun y h => match intOf y with
    | some i => (fc ρ h).bind fun z h => .of ((intOf z).bind fun j => opSl h x (some i) (some j)) h
    | none => .fail) :=
  (pe_slice sl_X ha (po_some hb) (po_some hc)).imp fun σ H Q ⟨ρ, m, h, F, r, s, a⟩ => rd2 r s a fun x y m1 h1 H1 v w p1 r1 s1 rv rw' a1 => by
    cases qi : intOf y with
    | none => rw [qi] at a1; exact False.elim a1
    | some i =>
      rw [qi] at a1
      have := intOf_ok qi
      subst this
      cases rw'
      refine ⟨i, rfl, ?_⟩
      obtain ⟨F1, ex, sF, keep⟩ := s1.hold rv
      refine ⟨ρ, m1, h1, F1, r1, sF, (a1.bind.fr ex).imp fun z m3 h3 H3 p3 t3 s3 ⟨s3', a3⟩ u rz => ?_⟩
      have rv3 := keep m3 h3 H3 p3 t3 s3
      cases qj : intOf z with
      | none => rw [qj] at a3; exact False.elim a3
      | some j =>
        rw [qj] at a3
        have := intOf_ok qj
        subst this
        cases rz
        refine ⟨j, rfl, ?_⟩
        cases q : opSl h3 x (some i) (some j) with
        | none => rw [show (some j).bind (fun j => opSl h3 x (some i) (some j)) = opSl h3 x (some i) (some j) from rfl, q] at a3; exact False.elim a3
        | some z =>
          rw [show (some j).bind (fun j => opSl h3 x (some i) (some j)) = opSl h3 x (some i) (some j) from rfl, q] at a3
          exact sl_ok s3' rv3 q fun H2 u e2 ru => a3 m3 H2 (Pre.refl _) e2.tups (s3'.ext e2) u ru

/-! ### calls -/
def spOf (K : PySem.W.Frag) (mg : Str → Option Value) (g : List T → Hd → Res T) (n : Nat) : Sp := fun vs H Q E =>
  vs.length = n ∧ ∃ ts m h F, Rps K mg m H ts vs ∧ Sim K mg m h H F ∧ Ans K mg (fun C d _ H' => E C d H') F m H [] (g ts h) fun t m' h' H' => ∀ v, Rp K mg m' H' t v → Q v H'
/-- a def of the text keeps what g says -/
def DefOk (X : Cx) (k : Nat) (f : Str) (g : List T → Hd → Res T) : Prop := ∃ (ad : Addr) (fd : FuncData) (ps : List Str), X.mg f = some (.ref ad) ∧ PySem.W.keepIn X.K (.ref ad) = true ∧ Binds X.K fd ps [] ∧
  FnOk X.prog X.w X.K X.mg X.base (L2.CX X.prog X.w) k ad fd ps (spOf X.K X.mg g ps.length) ∧ ∀ ts h, ts.length ≠ ps.length → g ts h = .fail
theorem s_call {k : Nat} {f : Str} {g : List T → Hd → Res T} {ga : En → Hd → Res (List T)} (hr : Room k X.A) (tk : Takes X W) (hd : DefOk X k f g) (hg : Gl X f) (hdb : (f == ("__debug__" : Str)) = false) (hs : notStars (e :: es) = true) (ha : SA X W (e :: es) ga) :
    SE X W (.Call (.Name f p) (e :: es) [] pos) (fun ρ h => (ga ρ h).bind fun ts h => (g ts h).bind fun t h => .ok (.v t) h) := by
  obtain ⟨ad, fd, ps, hm, kp, bd, F, hlen⟩ := hd
  have hs' : notStar e = true ∧ notStars es = true := by
    have : (notStar e && notStars es) = true := hs
    simpa using this
  refine (pe_callS (E := WE W) F hr hg hm kp bd (passAt tk) ha hdb (star_cons hs'.1) (stars_plain hs'.2)).imp fun σ H Q ⟨ρ, m, h, G, r, s, a⟩ => ⟨ρ, m, h, G, r, s, a.bind.imp fun ts m1 h1 H1 p1 t1 s1 a1 vs rvs => ?_⟩
  have hl : ts.length = ps.length := by
    by_cases hl : ts.length = ps.length
    · exact hl
    · rw [hlen ts h1 hl] at a1; exact False.elim a1
  refine ⟨by rw [← rvs.length]; exact hl, ts, m1, h1, G, rvs, s1, ?_⟩
  have a2 := a1.bind
  cases q : g ts h1 with
  | fail => rw [q] at a2; exact a2
  | err c pp h2 => rw [q] at a2; exact a2
  | ok t h2 =>
    rw [q] at a2
    exact fun m' H' p t' s' v rv => Ans.okv (x := .v t) s' (a2 m' H' p t' s') v rv
end
end Pv
end

section
set_option Elab.async false
set_option linter.all false
set_option maxRecDepth 100000
set_option maxHeartbeats 4000000
namespace L2
open PySem PySem.Spec PyProof.Rows
/-- set(t), t a row of ints -/
def rSetTup (K : PySem.W.Frag) (w : World) : List V → Hp → VK → Prop := fun vs H Q => ∃ (p : Addr) (ns : List Int), vs = [.ref p] ∧ SqT K H p (ns.map V.int) ∧ ns.length < 64 ∧
  ∀ (a : Addr) (c : Nat), H a = none → c ≤ ns.length → Q (.ref a) (upd H a (SetO w a (fun j => decide (j ∈ ns)) c))
section
variable {X : Cx}
theorem cr_setTup (hc : X.calm = true) : CallR X (.type "set") (rSetTup X.K X.w) := by
  intro pins s σ H vs us Q I r h
  obtain ⟨p, ns, rfl, hq, hl, q⟩ := h
  obtain ⟨its, rv, pt, hz⟩ := I.tuple hq
  rw [Vals.ref1 r]
  refine call_set_tupI ns (I.ok.hd hc) (show s.heap.IsTuple p its.toArray from pt) (show IntsAre its.toArray.toList ns from ints_of_vals rv) (by unfold scanBound; omega) fun h' tk c R1 hcn k => ?_
  have hn := I.hok.fresh (Nat.le_refl s.heap.objs.size)
  exact ⟨.ref _, upd H s.heap.objs.size (SetO X.w s.heap.objs.size (fun j => decide (j ∈ ns)) c), I.laid (t' := tk) k (Nat.le_refl _) (setO_new R1), rfl, q _ c hn hcn⟩
end
end L2
namespace Pv
open PySem PySem.Spec PyProof.Rows L2
theorem mem_dedI {x : Int} : ∀ {l : List Int}, x ∈ dedI l ↔ x ∈ l
  | [] => Iff.rfl
  | y :: l => by
    unfold dedI
    split
    · rename_i h
      rw [mem_dedI, List.mem_cons]
      exact ⟨.inr, fun z => z.elim (fun e => e ▸ h) id⟩
    · rw [List.mem_cons, List.mem_cons, mem_dedI]
theorem nodup_dedI : ∀ l : List Int, (dedI l).Nodup
  | [] => List.nodup_nil
  | y :: l => by
    unfold dedI
    split
    · exact nodup_dedI l
    · rename_i h
      exact List.nodup_cons.mpr ⟨fun z => h (mem_dedI.mp z), nodup_dedI l⟩
theorem sortI_lt {l : List Int} (h : l.Nodup) : (sortI l).Pairwise (· < ·) := by
  have h1 : (sortI l).Nodup := (sortI_perm l).nodup_iff.mpr h
  have h2 := sortI_sorted l
  revert h1 h2
  generalize sortI l = m
  intro h1 h2
  induction m with
  | nil => exact List.Pairwise.nil
  | cons x m ih =>
    have a := List.pairwise_cons.mp h2
    have b := List.nodup_cons.mp h1
    refine List.pairwise_cons.mpr ⟨fun z hz => ?_, ih b.2 a.2⟩
    have := a.1 z hz
    have hne : x ≠ z := fun e => b.1 (e ▸ hz)
    omega
/-- the same members, the same row -/
theorem lt_eq : ∀ {l m : List Int}, l.Pairwise (· < ·) → m.Pairwise (· < ·) → (∀ x, x ∈ l ↔ x ∈ m) → l = m
  | [], [], _, _, _ => rfl
  | [], y :: m, _, _, h => by have := (h y).mpr List.mem_cons_self; cases this
  | x :: l, [], _, _, h => by have := (h x).mp List.mem_cons_self; cases this
  | x :: l, y :: m, hl, hm, h => by
    have a := List.pairwise_cons.mp hl
    have b := List.pairwise_cons.mp hm
    have hxy : x = y := by
      rcases List.mem_cons.mp ((h x).mp List.mem_cons_self) with e | h1
      · exact e
      · rcases List.mem_cons.mp ((h y).mpr List.mem_cons_self) with e | h2
        · exact e.symm
        · have := a.1 y h2; have := b.1 x h1; omega
    subst hxy
    rw [lt_eq a.2 b.2 fun z => ?_]
    constructor
    · intro hz
      rcases List.mem_cons.mp ((h z).mp (List.mem_cons_of_mem _ hz)) with e | q
      · have := a.1 z hz; omega
      · exact q
    · intro hz
      rcases List.mem_cons.mp ((h z).mpr (List.mem_cons_of_mem _ hz)) with e | q
      · have := b.1 z hz; omega
      · exact q
section
variable {X : Cx} {W : WX} {fa : En → Hd → Res VV} {a : Expr} {p p2 pos tpos : Pos}
theorem s_srtSet (hc : X.calm = true) (hg : Gl X "set") (hm : X.mg "set" = none) (hg2 : Gl X "sorted") (hm2 : X.mg "sorted" = none) (hs : notStar a = true) (ha : SE X W a fa) :
    SE X W (.Call (.Name "sorted" p) [.Call (.Name "set" p2) [a] [] tpos] [] pos) (fun ρ h => (fa ρ h).bind fun x h => .of (srtS h x) h) := by
  have k1 : PE X (.Call (.Name "set" p2) [a] [] tpos) (tCB (rSetTup X.K X.w) (tCons (rdE X.K X.mg W fa) tNil)) := pe_callTy (cr_setTup hc) hg hm (by decide +kernel) (pa_cons ha pa_nil (star_cons hs)) (by decide +kernel) (by decide +kernel) (star_cons hs) rfl
  have k2 : PE X (.Call (.Name "sorted" p) [.Call (.Name "set" p2) [a] [] tpos] [] pos) (tCB (rSortedSet X.w) (tCons (tCB (rSetTup X.K X.w) (tCons (rdE X.K X.mg W fa) tNil)) tNil)) :=
    pe_callB (cr_sortedSet hc) hg2 hm2 (by decide +kernel) (pa_cons k1 pa_nil (star_cons rfl)) (by decide +kernel) (by decide +kernel) (star_cons rfl) rfl
  exact k2.imp fun σ H Q ⟨ρ, m, h, F, r, s, q⟩ => rd1 r s q fun x m1 h1 H1 v p1 r1 s1 rv a1 => by
    cases e : srtS h1 x with
    | none => rw [e] at a1; exact False.elim a1
    | some z =>
      rw [e] at a1
      unfold srtS at e
      split at e
      · rename_i ts ex
        split at e
        · rename_i ns e3
          split at e
          · rename_i hlen
            cases e
            obtain ⟨c, xs, rfl, rx, hcx⟩ := items_ok s1 ex rv
            have hx : SqT X.K H1 c xs := by rcases hcx with ⟨z, _⟩ | ⟨_, z⟩; cases z; exact z
            rw [intsT_ok e3 rx] at hx
            refine ⟨c, ns, rfl, hx, hlen, fun b k hb hk => ⟨b, _, k, rfl, upd_same, by omega, fun ns' l hs hmem hnl hl => ?_⟩⟩
            have e4 : ns' = sortI (dedI ns) := lt_eq hs (sortI_lt (nodup_dedI ns)) fun y => by rw [hmem y, decide_eq_true_eq, (sortI_perm _).mem_iff, mem_dedI]
            subst e4
            have x1 : Ext H1 (upd H1 b (SetO X.w b (fun j => decide (j ∈ ns)) k)) := Ext.new _ hb
            have s2 := s1.ext x1
            have x2 := x1.trans (Ext.new (.lst ((sortI (dedI ns)).map V.int)) hl)
            refine a1 m1 _ (Pre.refl _) x2.tups (s1.ext x2) _ ?_
            exact new_l s2 (rps_ints _) hl
          · cases e
        · cases e
      · cases e
end
end Pv
end

section
set_option Elab.async false
set_option linter.all false
set_option maxRecDepth 100000
set_option maxHeartbeats 4000000
namespace PySem
open Sem (wp)
/-! ### ranges beyond a machine word -/
namespace LngR
theorem own_l : Manifest.owners.lookup (String.ofList ['r', 'o', 't', 'a', 'r', 'e', 't', 'i', '_', 'e', 'g', 'n', 'a', 'r', 'g', 'n', 'o', 'l'].reverse) = some Manifest.sig_longrange_iterator := by kernel_rfl
theorem sub_l : isSubtype (.type "longrange_iterator") (.type "longrange_iterator") = pure true := by rw [isSubtype_type]; kernel_rfl
theorem slot_it : Slot "longrange_iterator" "__iter__" "longrange_iterator.__iter__" :=
  .of (owner := "longrange_iterator") (n := "__iter__") (by rw [typeLookup_type, builtinLookup_eq_fast]; kernel_rfl) (by decide +kernel) (by decide +kernel) (by decide +kernel) (by first | exact .inl (by decide +kernel) | exact .inr (by decide +kernel)) sub_l
theorem slot_nx : Slot "longrange_iterator" "__next__" "longrange_iterator.__next__" :=
  .of (owner := "longrange_iterator") (n := "__next__") (by rw [typeLookup_type, builtinLookup_eq_fast]; kernel_rfl) (by decide +kernel) (by decide +kernel) (by decide +kernel) (by first | exact .inl (by decide +kernel) | exact .inr (by decide +kernel)) sub_l
theorem entry_it : entryFor table "longrange_iterator.__iter__" = some Builtin.«dict_keyiterator.__iter__» := entryFor_alias (id' := "dict_keyiterator.__iter__") (by kernel_rfl)
    (by first | rfl | decide +kernel | (unfold String.splitOn; simp +decide [String.splitOnAux])) (by decide +kernel) (by kernel_rfl)
theorem entry_nx : entryFor table "longrange_iterator.__next__" = some Builtin.«longrange_iterator.__next__» := entryFor_of_tree (by kernel_rfl)
theorem args_it (a : Value) : argsOk "longrange_iterator.__iter__" ⟨[a], []⟩ := by
  unfold argsOk
  rw [signature?_of (id := "longrange_iterator.__iter__") (n := ['_', '_', 'r', 'e', 't', 'i', '_', '_']) (o := ['r', 'o', 't', 'a', 'r', 'e', 't', 'i', '_', 'e', 'g', 'n', 'a', 'r', 'g', 'n', 'o', 'l']) (by kernel_rfl) own_l]
  kernel_rfl
theorem args_nx (a : Value) : argsOk "longrange_iterator.__next__" ⟨[a], []⟩ := by
  unfold argsOk
  rw [signature?_of (id := "longrange_iterator.__next__") (n := ['_', '_', 't', 'x', 'e', 'n', '_', '_']) (o := ['r', 'o', 't', 'a', 'r', 'e', 't', 'i', '_', 'e', 'g', 'n', 'a', 'r', 'g', 'n', 'o', 'l']) (by kernel_rfl) own_l]
  kernel_rfl
abbrev IsL (h : Heap) (it : Addr) (x left step : Int) : Prop :=
  h.get? it = some { cls := .type "longrange_iterator", dict := none, data := .fields #[rawInt x, rawInt left, rawInt step], slots := #[] }
theorem meets_nx (it : Addr) (x left step : Int) (hc0 : ¬left ≤ 0) :
    Meets (Builtin.«longrange_iterator.__next__» ⟨[.ref it], []⟩) (fun _ R s => IsL s.heap it x left step ∧ R (.ok (.ret (Value.int x s.toks)))
      { s with heap := (s.heap.update it (Obj.mapFields fun x_1 => x_1.setIfInBounds 0 (rawInt (x + step)))).update it (Obj.mapFields fun x => x.setIfInBounds 1 (rawInt (left - 1))), toks := s.toks + 1 }) :=
  .of_wp fun prog w A R s h => by
    obtain ⟨hp, g, d, tk, os⟩ := s
    obtain ⟨hl, h⟩ := h
    wp_walk
    exact ⟨_, rfl, h⟩
section
variable {prog : Program} {w : World} {A : Around} {E : Value → Shared → Prop} {s : Shared}
theorem iter_l {r : Addr} {a b c : Int} {t u v : Tok} {Q : Value → Shared → Prop} (hr : IsRange s.heap r a b c t u v) (hbig : Builtin.Range.small a b c = false)
    (hQ : Q (.ref s.heap.objs.size) { s with heap := s.heap.push { cls := .type "longrange_iterator", data := .fields #[rawInt a, rawInt (Builtin.Range.rangeSize a b c), rawInt c] } }) : wpAny (model prog w) A (pyIter (.ref r)) Q E s := by
  have hT : s.TypeIs (.ref r) "range" := ⟨_, hr, rfl⟩
  unfold Builtin.Range.small at hbig
  refine wpAny_pyIter_slot hT F.slot_range_iter (call_meets F.slot_range_iter hT F.entry_range_iter (F.args_range_iter_1 _) (AutoRange.range___iter___range_0 r a b c t u v (by rw [hbig]; rfl)) ⟨hr, ?_⟩)
  simp only [hbig, Bool.false_eq_true, if_false]
  exact ⟨"longrange_iterator", _, ⟨_, Heap.get?_push_size _ rfl, rfl⟩, slot_nx.lookup, hQ⟩
theorem item_l {it : Addr} {x left step : Int} {Q : Option Value → Shared → Prop} (hit : IsL s.heap it x left step) (hleft : 0 < left)
    (hQ : ∀ h', IsL h' it (x + step) (left - 1) step → Heap.SameBut it s.heap h' → Q (some (.int x s.toks)) { s with heap := h', toks := s.toks + 1 }) : wpAny (model prog w) A (pyNext (.ref it)) Q E s := by
  have hT : s.TypeIs (.ref it) "longrange_iterator" := ⟨_, hit, rfl⟩
  unfold pyNext
  refine wpAny_bind (wpAny_attempt (wpAny_callSpecial?_slot (name := Str.ofString "__next__") hT slot_nx (call_meets slot_nx hT entry_nx (args_nx _) (meets_nx it x left step (by omega)) ⟨hit, ?_⟩)))
  have k1 : IsL ((s.heap.update it (Obj.mapFields fun y => y.setIfInBounds 0 (rawInt (x + step)))).update it (Obj.mapFields fun y => y.setIfInBounds 1 (rawInt (left - 1)))) it (x + step) (left - 1) step :=
    Heap.get?_update_self _ (Heap.get?_update_self _ hit rfl) rfl
  exact wpAny_pure (hQ _ k1 ((Heap.SameBut.update ..).trans (Heap.SameBut.update ..)))
theorem end_l {it : Addr} {x left step : Int} {Q : Option Value → Shared → Prop} (hh : A.handled = none) (hit : IsL s.heap it x left step) (hleft : left ≤ 0)
    (hQ : ∀ h', Heap.ExtBut it s.heap h' → Q none { s with heap := h' }) : wpAny (model prog w) A (pyNext (.ref it)) Q E s := by
  have hT : s.TypeIs (.ref it) "longrange_iterator" := ⟨_, hit, rfl⟩
  unfold pyNext
  refine wpAny_bind (wpAny_attempt (wpAny_callSpecial?_slot (name := Str.ofString "__next__") hT slot_nx (wpAny_call_entry slot_nx hT entry_nx ?_ (args_nx _))))
  unfold Builtin.«longrange_iterator.__next__»
  have h0 : s.heap.get? it = some { cls := .type "longrange_iterator", dict := none, data := .fields #[rawInt x, rawInt left, rawInt step], slots := #[] } := hit
  repeat wp_step
  simp only [raiseNew]
  refine wpAny_bind (wpAny_handled (?_))
  first | rw [show A.in1.handled = none from hh] | rw [hh]
  refine wpAny_bind (wpAny_pure (wpAny_throw (?_)))
  refine wpAny_bind (wpAny_isInstance (T := "StopIteration") (b := true) ⟨_, Heap.get?_push_size _ rfl, rfl⟩ (isSubtype_stop) ?_)
  have k1 := ((Heap.ExtBut.refl it s.heap).push { cls := Value.type "tuple", data := Data.seq #[] }).push
  exact wpAny_pure (hQ _ (k1 _))
theorem self_l {it : Addr} {x left step : Int} {Q : Value → Shared → Prop} (hit : IsL s.heap it x left step) (h : Q (.ref it) s) : wpAny (model prog w) A (pyIter (.ref it)) Q E s := by
  have hT : s.TypeIs (.ref it) "longrange_iterator" := ⟨_, hit, rfl⟩
  refine wpAny_pyIter_slot hT slot_it (wpAny_call_entry slot_it hT entry_it (show wpAny _ _ (ret (.ref it)) _ _ s from ?_) (args_it _))
  exact wpAny_pure ⟨_, rfl, "longrange_iterator", _, hT, slot_nx.lookup, h⟩
end
end LngR
end PySem
namespace L2
open PySem PySem.Spec PyProof.Rows LngR
theorem turn_long {P : Program} {w : World} {K : PySem.W.Frag} {tg : Expr} (it : Addr) (lo : Int) (n : Nat) : Turn P w K tg (Itr lo n) [it] it (fun i h => IsL h it (lo + (i : Nat)) ((n : Int) - (i : Nat)) 1) where
  mem := by simp
  obj := fun i h st b hb => by
    rw [show b = it by simpa using hb]
    exact ⟨_, st, fun v z => by cases (show Data.fields _ = Data.cell v from z)⟩
  keep := fun i h h' st k => k it (by simp) _ st
  item := by
    intro X hP hw hK hc i pins s σ H E I hf st hg
    subst hP hw hK
    have hg : i < n := hg
    obtain ⟨f0, f1, f2, f3, f4, f5⟩ := hf it (by simp)
    refine item_l st (by omega) fun h' st' sb => ?_
    have I1 : Inv X pins σ H { s with heap := h', toks := s.toks + 1 } := I.turned (fun b o hb e => (sb.2 b (by simpa using hb)).trans e) f0 f1 f3 f4 f5
    have e1 : lo + ((i + 1 : Nat) : Int) = lo + (i : Int) + 1 := by omega
    have e2 : (n : Int) - ((i + 1 : Nat) : Int) = (n : Int) - (i : Int) - 1 := by omega
    refine ⟨_, rfl, go_of (s := { s with heap := h', toks := s.toks + 1 }) (n := "longrange_iterator") st' rfl rfl (by decide) ⟨.int (lo + i), H, I1, ⟨_, rfl⟩, ⟨rfl, rfl⟩, ?_, fun b hb => (hf b hb).1⟩⟩
    show IsL h' it (lo + ((i + 1 : Nat) : Int)) ((n : Int) - ((i + 1 : Nat) : Int)) 1
    rw [e1, e2]
    exact st'
  done := by
    intro X hP hw hK hc i pins s σ H E I hf st hg
    subst hP hw hK
    have hg : n ≤ i := hg
    obtain ⟨f0, f1, f2, f3, f4, f5⟩ := hf it (by simp)
    exact end_l (I.ok.hd hc) st (by omega) fun h' eb => ⟨rfl, I.turned (t' := s.toks) (fun b o hb e => eb b o (by simpa using hb) e) f0 f1 f3 f4 f5⟩
  self := fun _ _ _ _ _ st h => self_l st h
section
variable {X : Cx} {tg : Expr}
theorem long_it {pins : List (Addr × Obj)} {σ : St} {H : Hp} {s : Shared} {R : It → Hp → Prop} {E : Value → Shared → Prop} {lo hi : Int} {t u v : Tok} {tk : Nat} (I : Inv X pins σ H s) (h1 : 2 ^ 63 ≤ lo)
    (q : R (Itr lo (hi - lo).toNat) H) : wpAny (model X.prog X.w) X.A (pyIter (.ref s.heap.objs.size)) (PIE X pins σ tg R) E { s with heap := s.heap.push { cls := .type "range", data := .fields #[.int lo t, .int hi u, .int 1 v] }, toks := tk } := by
  refine iter_l (IsRange.new ..) ?_ ?_
  · unfold Builtin.Range.small Builtin.Range.rangeFitsLong
    rw [decide_eq_false (p := lo < 2 ^ 63) (by omega), Bool.and_false] <;> rfl
  have I1 : Inv X pins σ H { s with heap := s.heap.push { cls := .type "range", data := .fields #[.int lo t, .int hi u, .int 1 v] }, toks := tk } := I.kept fun b o e => Heap.get?_push_of_some _ e
  refine ⟨_, [(s.heap.push { cls := .type "range", data := .fields #[.int lo t, .int hi u, .int 1 v] }).objs.size], _, _, H, rfl, I1.kept (t' := tk) fun b o e => Heap.get?_push_of_some _ e, turn_long _ lo (hi - lo).toNat, ?_, fun b hb => ?_, q⟩
  · have e1 : lo + ((0 : Nat) : Int) = lo := by simp
    have e2 : (((hi - lo).toNat : Nat) : Int) - ((0 : Nat) : Int) = Builtin.Range.rangeSize lo hi 1 := by rw [rangeSize_one]; split <;> omega
    show IsL _ _ (lo + ((0 : Nat) : Int)) ((((hi - lo).toNat : Nat) : Int) - ((0 : Nat) : Int)) 1
    rw [e1, e2]
    exact Heap.get?_push_size _ rfl
  · rw [show b = (s.heap.push { cls := .type "range", data := .fields #[.int lo t, .int hi u, .int 1 v] }).objs.size by simpa using hb]
    exact I1.fpOk (Nat.le_refl _) (I1.hok.fresh (Nat.le_refl _))
def iRngB (ta : TA) : TI := fun σ H R => ta σ H fun vs H1 => ∃ i j : Int, vs = [.int i, .int j] ∧ ((-(2 ^ 62) ≤ i ∧ i < 2 ^ 62 ∧ -(2 ^ 62) ≤ j ∧ j < 2 ^ 62) ∨ 2 ^ 63 ≤ i) ∧ R (Itr i (j - i).toNat) H1
theorem pi_rangeB {a b : Expr} {ta : TA} {p pos : Pos} (hg : Gl X "range") (hm : X.mg "range" = none) (ha : PA X [a, b] ta) (hs : starEach [a, b] X.env = [(false, eval a X.env), (false, eval b X.env)] := by rfl)
    (hs2 : starEach [b] X.env = [(false, eval b X.env)] := by rfl) : PI X tg (.Call (.Name "range" p) [a, b] [] pos) (iRngB ta) := by
  refine ⟨fun pins s σ H R I h => Call_ (ld_blt I hg hm boot_range (PyProof.Rows.callWith_type1 (thn (ha.run pos pins s σ H _ I h) fun us s1 ⟨vs, H1, I1, r1, q1⟩ => ?_) (by rw [hs, hs2]) (by rw [hs2]; rfl)))⟩
  obtain ⟨i, j, e, q0, q⟩ := q1
  subst e
  cases r1 with
  | cons r rr =>
    cases rr with
    | cons r' rr =>
      cases rr
      obtain ⟨t, rfl⟩ := r
      obtain ⟨t', rfl⟩ := r'
      rcases q0 with ⟨q1, q2, q3, q4⟩ | q0
      · exact call_range_2 (range_it I1 q1 q2 q3 q4 q)
      · exact call_range_2 (long_it I1 q0 q)
end
end L2
end

section
set_option Elab.async false
set_option linter.all false
set_option maxRecDepth 100000
set_option maxHeartbeats 4000000
namespace Pv
open PySem PySem.Spec PyProof.Rows L2
section
variable {X : Cx} {W : WX} {a b c e o : Expr} {es : List Expr} {pos p p2 apos cpos : Pos} {fa fb fc : En → Hd → Res VV}
/-! ### methods of lists -/
def notSuper : Expr → Bool
  | .Call .. => false
  | _ => true
theorem base_id {o : Expr} {env : Env} {x : Str} {whole : Sem Value} (h : notSuper o = true) : attributeBase o x env whole = whole := by
  cases o <;> first | rfl | (cases h)
theorem few1 {e : Expr} {env : Env} {cpos : Pos} (hs : notStar e = true) : ((backTo cpos (starEach [e] env)).all (fun x => !x.1) && (backToKw cpos (keywordEach [] env)).all (fun x => x.1.isSome)
      && decide (([e] : List Expr).length + ([] : List Keyword).length + (if ([] : List Keyword).isEmpty then 0 else 1) < 30)) = true := by
  rw [star_cons hs] <;> rfl
theorem mtR {id : String} {r : V → List V → Hp → VK → Prop} (h : MtM X id r) : MtR X id r := h
def mtN : Mt → Str
  | .append => "append"
  | .extend => "extend"
  | .pop => "pop"
theorem s_pop0 (hn : notSuper o = true) (hl : (apos.endLine == cpos.line) = true) (ho : SE X W o fa) : SE X W (.Call (.Attribute o "pop" apos) [] [] cpos) (fun ρ h => (fa ρ h).bind fun x h => pop0 h x) :=
  (pe_bm0 PySem.F.plainAttrs_list PySem.F.slot_list_pop PySem.F.type_list_pop (mtR mt_pop) ho (base_id hn) hl).imp fun σ H Q ⟨ρ, m, h, F, r, s, a⟩ => rd1 r s a fun x m1 h1 H1 v p1 r1 s1 rv a1 => by
    unfold pop0 at a1
    split at a1
    · rename_i i
      split at a1
      · rename_i ts hg
        split at a1
        · rename_i t ht
          obtain ⟨ad, ea, xs, hx, rs⟩ := s1.obj i _ hg
          obtain ⟨ad', ea', rfl⟩ := rv
          rw [ea] at ea'; cases ea'
          obtain ⟨y, hy, ry⟩ := rs.get ht
          obtain ⟨s2, t2⟩ := s1.put hg ea rs.dropLast
          refine ⟨.inl ⟨rfl, xs, SqL.of hx⟩, ad, xs, y, rfl, rfl, hx, by rw [← rs.length]; exact hy, ?_⟩
          exact a1 m1 _ (Pre.refl _) t2 s2 y (Rp.mono (Pre.refl _) t2 _ _ ry)
        · exact False.elim a1
      · exact False.elim a1
    · exact False.elim a1
def rMt : Mt → V → List V → Hp → VK → Prop
  | .append => rAppend
  | .extend => rExtend
  | .pop => rPopAt
theorem put1_ok {K : PySem.W.Frag} {mg : Str → Option Value} {F H : Hp} {σ : L2.St} {m : List Addr} {h : Hd} {W : WX} {q : Mt} {i : Nat} {t : T} {ad : Addr} {v : V} {Q : VK} (s : Sim K mg m h H F) (ea : m[i]? = some ad) (rv : Rp K mg m H t v)
    (a : Ans K mg W F m H σ (put1 q h i t) fun x m' h' H' => ∀ v, RpV K mg F m' h' H' x v → Q v H') : rMt q (.ref ad) [v] H Q := by
  unfold put1 at a
  split at a
  · rename_i ts hg
    obtain ⟨ad', ea', xs, hx, rs⟩ := s.obj i _ hg
    rw [ea] at ea'; cases ea'
    cases q with
    | append =>
      simp only at a
      split at a
      · rename_i hl
        obtain ⟨s2, t2⟩ := s.put hg ea (rs.append (.cons rv .nil))
        exact ⟨ad, xs, v, rfl, rfl, hx, by rw [← rs.length, sizeLine_eq]; exact hl, a m _ (Pre.refl _) t2 s2 .non rfl⟩
      · exact False.elim a
    | pop =>
      cases t <;> try exact False.elim a
      rename_i k
      simp only at a
      split at a
      · rename_i hk
        simp only [Bool.and_eq_true, decide_eq_true_eq] at hk
        split at a
        · rename_i y hy
          cases rv
          have hz := rs.length
          obtain ⟨w, hw, rw'⟩ := rs.get hy
          obtain ⟨s2, t2⟩ := s.put hg ea (rs.eraseIdx k.toNat)
          have h62 := hk.2
          unfold small62 at h62
          simp only [Bool.and_eq_true, decide_eq_true_eq] at h62
          refine ⟨ad, xs, k, k.toNat, w, rfl, rfl, hx, by omega, by omega, ?_, hw, a m _ (Pre.refl _) t2 s2 w (Rp.mono (Pre.refl _) t2 _ _ rw')⟩
          unfold seqIndex?
          simp only [show ¬ (k < 0) by omega, if_false]
          have h2 : k.toNat < xs.length := by omega
          have h3 : (0 ≤ k && decide (k < ((xs.length : Nat) : Int))) = true := by simp; omega
          rw [if_pos h3]
        · exact False.elim a
      · exact False.elim a
    | extend =>
      cases t <;> try exact False.elim a
      rename_i j
      simp only at a
      split at a
      · rename_i us hj
        split at a
        · rename_i hl
          obtain ⟨bd, eb, ys, hy, rys⟩ := s.obj j _ hj
          obtain ⟨bd', eb', rfl⟩ := rv
          rw [eb] at eb'; cases eb'
          obtain ⟨s2, t2⟩ := s.put hg ea (rs.append rys)
          exact ⟨ad, bd, xs, ys, rfl, rfl, hx, hy, by rw [← rs.length, ← rys.length, sizeLine_eq]; exact hl, a m _ (Pre.refl _) t2 s2 .non rfl⟩
        · exact False.elim a
      · exact False.elim a
  · exact False.elim a
theorem mt_slot (q : Mt) : ∃ id, Slot "list" (mtN q) id ∧ typeOf (.builtin id) = pure (.type "method_descriptor") ∧ MtR X id (rMt q) := by
  cases q with
  | append => exact ⟨_, PySem.F.slot_list_append, PySem.F.type_list_append, mt_append⟩
  | extend => exact ⟨_, PySem.F.slot_list_extend, PySem.F.type_list_extend, mt_extend⟩
  | pop => exact ⟨_, PySem.F.slot_list_pop, PySem.F.type_list_pop, mt_popAt⟩
theorem s_mt1 (q : Mt) (hn : notSuper o = true) (hl : (apos.endLine == cpos.line) = true) (hs : notStar b = true) (ho : SE X W o fa) (hb : SE X W b fb) :
    SE X W (.Call (.Attribute o (mtN q) apos) [b] [] cpos) (fun ρ h => (fa ρ h).bind fun x h => match x with
      | .v (.ref i) => if (h.get i).isSome then (resV (fb ρ h)).bind fun t h => put1 q h i t else .fail
      | _ => .fail) := by
  obtain ⟨id, sl, ty, mt⟩ := mt_slot (X := X) q
  refine (pe_bm PySem.F.plainAttrs_list sl ty mt ho (pa_cons hb pa_nil (star_cons hs)) (base_id hn) (few1 hs) hl (star_cons hs) rfl).imp fun σ H Q ⟨ρ, m, h, F, r, s, a⟩ => rd1 r s a fun x m1 h1 H1 v p1 r1 s1 rv a1 => ?_
  split at a1
  · rename_i i
    split at a1
    · rename_i hg
      obtain ⟨u, hu⟩ := Option.isSome_iff_exists.mp hg
      obtain ⟨ad, ea, ro⟩ := s1.obj i _ hu
      obtain ⟨ad', ea', rfl⟩ := rv
      rw [ea] at ea'; cases ea'
      obtain ⟨xs, hq, _⟩ := ro.sq
      refine ⟨.inl ⟨rfl, xs, hq⟩, ρ, m1, h1, F, r1, s1, (rd_resV a1.bind).imp fun x m2 h2 H2 p2 t2 s2 hx v rv => ?_⟩
      obtain ⟨m3, p3, s3, r3, a3⟩ := hx v rv
      exact put1_ok s3 (p3.get (p2.get ea)) r3 a3
    · exact False.elim a1
  · exact False.elim a1
end
end Pv
end

section
set_option Elab.async false
set_option linter.all false
set_option maxRecDepth 100000
set_option maxHeartbeats 4000000
namespace Pv
open PySem PySem.Spec PyProof.Rows L2
/-! ### what is walked -/
section
variable (K : PySem.W.Frag) (mg : Str → Option Value)
def SqB (l : Bool) (H : Hp) (a : Addr) (xs : List V) : Prop := match l with
  | true => SqL K H a xs
  | false => SqT K H a xs
def BIok (m : List Addr) (H F : Hp) : BI → Addr → Prop
  | .tp ts, a => ∃ xs, SqT K H a xs ∧ Rps K mg m H ts xs
  | .kl ts, a => ∃ xs, SqF K H a xs ∧ Rps K mg m H ts xs
  | .tl ts, a => ∃ xs, F a = some (.lst xs) ∧ Rps K mg m H ts xs
  | .lv i, a => m[i]? = some a
/-- J walks what v tells, as long as F stands -/
def ItOk (v : ItV) (J : L2.It) (m : List Addr) (H F : Hp) : Prop := ∀ m' h' H', Pre m m' → Tups H H' → Sim K mg m' h' H' F → ∀ n,
  (v.at h' n = some none → J.stop n H') ∧ ∀ t, v.at h' n = some (some t) → J.go n H' ∧ ∀ x H2, J.yld n H' x H2 → Ext H' H2 ∧ Rp K mg m' H2 t x
def rdI (W : WX) (f : En → Hd → Res ItV) : TI := fun σ H R => ∃ ρ m h F, RSl K mg m H ρ σ ∧ Sim K mg m h H F ∧ Ans K mg W F m H σ (f ρ h) fun v m' h' H' => ∀ J F1, Ext F F1 → Sim K mg m' h' H' F1 → ItOk K mg v J m' H' F1 → R J H'
end
section
variable {K : PySem.W.Frag} {mg : Str → Option Value} {W : WX} {F F1 H H' : Hp} {m m' : List Addr} {h h' : Hd} {σ : L2.St} {ρ : En} {b b2 : BI} {a a2 : Addr}
theorem BIok.mono (p : Pre m m') (t : Tups H H') (r : BIok K mg m H F b a) : BIok K mg m' H' F b a := by
  cases b with
  | tp ts => obtain ⟨xs, q, rs⟩ := r; exact ⟨xs, sqT_mono t q, Rps.mono p t _ _ rs⟩
  | kl ts => obtain ⟨xs, q, rs⟩ := r; exact ⟨xs, sqF_mono t q, Rps.mono p t _ _ rs⟩
  | tl ts => obtain ⟨xs, q, rs⟩ := r; exact ⟨xs, q, Rps.mono p t _ _ rs⟩
  | lv i => exact p.get r
theorem BIok.at (s : Sim K mg m h H F) (r : BIok K mg m H F b a) {n : Nat} {o : Option T} (e : b.at h n = some o) :
    ∃ xs, SqB K b.isL H a xs ∧ match o with
      | none => xs.length ≤ n
      | some t => ∃ x, xs[n]? = some x ∧ Rp K mg m H t x := by
  have fin : ∀ {ts : List T} {xs : List V}, Rps K mg m H ts xs → ts[n]? = o → match o with
      | none => xs.length ≤ n
      | some t => ∃ x, xs[n]? = some x ∧ Rp K mg m H t x := fun {ts xs} rs e => by
    cases o with
    | none =>
      have := List.getElem?_eq_none_iff.mp e
      have := rs.length
      show xs.length ≤ n
      omega
    | some t => exact rs.get e
  cases b with
  | tp ts =>
    obtain ⟨xs, q, rs⟩ := r
    exact ⟨xs, q, fin rs (Option.some.inj e)⟩
  | kl ts =>
    obtain ⟨xs, q, rs⟩ := r
    exact ⟨xs, q.sq, fin rs (Option.some.inj e)⟩
  | tl ts =>
    obtain ⟨xs, q, rs⟩ := r
    exact ⟨xs, SqL.of (s.fr a _ q), fin rs (Option.some.inj e)⟩
  | lv i =>
    have e : (match h.get i with | some o => some o.items[n]? | none => none) = some o := e
    cases eo : h.get i with
    | none => rw [eo] at e; cases e
    | some u =>
      rw [eo] at e
      obtain ⟨ad, ea, ro⟩ := s.obj i u eo
      have r : m[i]? = some a := r
      rw [r] at ea; cases ea
      obtain ⟨xs, q, rs⟩ := ro.sq
      exact ⟨xs, q, fin rs (Option.some.inj e)⟩
theorem it_one (r : BIok K mg m H F b a) : ItOk K mg (.one b) (if b.isL then Itl K a else Itt K a) m H F := fun m' h' H' p t s n => by
  have r' := r.mono p t
  cases hb : b.isL with
  | true =>
    refine ⟨fun e => ?_, fun u e => ?_⟩
    · obtain ⟨xs, q, hl⟩ := r'.at s e
      rw [hb] at q
      exact ⟨xs, q, hl⟩
    · obtain ⟨xs, q, x, hx, rx⟩ := r'.at s e
      rw [hb] at q
      refine ⟨⟨xs, x, q, hx⟩, fun y H2 hy => ?_⟩
      obtain ⟨rfl, hy⟩ := hy
      have := hy xs q
      rw [hx] at this; cases this
      exact ⟨Ext.refl _, rx⟩
  | false =>
    refine ⟨fun e => ?_, fun u e => ?_⟩
    · obtain ⟨xs, q, hl⟩ := r'.at s e
      rw [hb] at q
      exact ⟨xs, q, hl⟩
    · obtain ⟨xs, q, x, hx, rx⟩ := r'.at s e
      rw [hb] at q
      refine ⟨⟨xs, x, q, hx⟩, fun y H2 hy => ?_⟩
      obtain ⟨rfl, hy⟩ := hy
      have := hy xs q
      rw [hx] at this; cases this
      exact ⟨Ext.refl _, rx⟩
theorem it_rng {lo : Int} {k : Nat} : ItOk K mg (.rng lo k) (Itr lo k) m H F := fun m' h' H' p t s n => by
  refine ⟨fun e => ?_, fun u e => ?_⟩
  · have e : some (if n < k then some (T.int (lo + n)) else none) = some none := e
    split at e
    · cases e
    · rename_i hn; exact Nat.le_of_not_lt hn
  · have e : some (if n < k then some (T.int (lo + n)) else none) = some (some u) := e
    split at e
    · rename_i hn
      cases e
      refine ⟨hn, fun y H2 hy => ?_⟩
      obtain ⟨rfl, rfl⟩ := hy
      exact ⟨Ext.refl _, rfl⟩
    · cases e
theorem it_enum (hb : b.isL = true) (r : BIok K mg m H F b a) : ItOk K mg (.enum b) (Ite K a) m H F := fun m' h' H' p t s n => by
  have r' := r.mono p t
  refine ⟨fun e => ?_, fun u e => ?_⟩
  · have e : (b.at h' n).map (fun o => o.map fun t => T.tup [.int n, t]) = some none := e
    cases e2 : b.at h' n with
    | none => rw [e2] at e; cases e
    | some o =>
      cases o with
      | some t => rw [e2] at e; cases e
      | none =>
        obtain ⟨xs, q, hl⟩ := r'.at s e2
        rw [hb] at q
        exact ⟨xs, q, hl⟩
  · have e : (b.at h' n).map (fun o => o.map fun t => T.tup [.int n, t]) = some (some u) := e
    cases e2 : b.at h' n with
    | none => rw [e2] at e; cases e
    | some o =>
      cases o with
      | none => rw [e2] at e; cases e
      | some w =>
        rw [e2] at e; cases e
        obtain ⟨xs, q, x, hx, rx⟩ := r'.at s e2
        rw [hb] at q
        refine ⟨⟨xs, x, q, hx⟩, fun y H2 hy => ?_⟩
        obtain ⟨Tp, x', rfl, hT, rfl, hq⟩ := hy
        have := hq xs q
        rw [hx] at this; cases this
        have ex := Ext.new (.tup [.int (n : Nat), x]) hT
        exact ⟨ex, Tp, _, rfl, SqT.of upd_same, .cons rfl (.cons (Rp.mono (Pre.refl _) ex.tups _ _ rx) .nil)⟩
theorem it_zip (hb : b.isL = b2.isL) (r : BIok K mg m H F b a) (r2 : BIok K mg m H F b2 a2) : ItOk K mg (.zip b b2) (if b.isL then Itz K a a2 else RZ.ItzT K a a2) m H F := fun m' h' H' p t s n => by
  have r' := r.mono p t
  have r2' := r2.mono p t
  have hat : ∀ o, (ItV.zip b b2).at h' n = some o → ∃ o1 o2, b.at h' n = some o1 ∧ b2.at h' n = some o2 ∧ ((∃ x y, o1 = some x ∧ o2 = some y ∧ o = some (.tup [x, y])) ∨ ((o1 = none ∨ o2 = none) ∧ o = none)) := fun o e => by
    have e : (match b.at h' n, b2.at h' n with
      | some (some x), some (some y) => some (some (T.tup [x, y]))
      | some _, some _ => some none
      | _, _ => none) = some o := e
    cases e1 : b.at h' n with
    | none => rw [e1] at e; cases e
    | some o1 =>
      cases e2 : b2.at h' n with
      | none => rw [e1, e2] at e; cases o1 <;> cases e
      | some o2 =>
        rw [e1, e2] at e
        refine ⟨o1, o2, rfl, rfl, ?_⟩
        cases o1 with
        | none => cases e; exact .inr ⟨.inl rfl, rfl⟩
        | some x =>
          cases o2 with
          | none => cases e; exact .inr ⟨.inr rfl, rfl⟩
          | some y => cases e; exact .inl ⟨x, y, rfl, rfl, rfl⟩
  refine ⟨fun e => ?_, fun u e => ?_⟩
  · obtain ⟨o1, o2, e1, e2, hc⟩ := hat none e
    obtain ⟨xs, q, hx⟩ := r'.at s e1
    obtain ⟨ys, q2, hy⟩ := r2'.at s e2
    rcases hc with ⟨_, _, _, _, z⟩ | ⟨hc, _⟩
    · cases z
    have hh : xs.length ≤ n ∨ ys.length ≤ n := by
      rcases hc with rfl | rfl
      · exact .inl hx
      · exact .inr hy
    cases hb1 : b.isL with
    | true =>
      rw [hb1] at q; rw [← hb, hb1] at q2
      exact ⟨xs, ys, q, q2, hh⟩
    | false =>
      rw [hb1] at q; rw [← hb, hb1] at q2
      exact ⟨xs, ys, q, q2, hh⟩
  · obtain ⟨o1, o2, e1, e2, hc⟩ := hat (some u) e
    obtain ⟨xs, q, hx⟩ := r'.at s e1
    obtain ⟨ys, q2, hy⟩ := r2'.at s e2
    rcases hc with ⟨t1, t2, rfl, rfl, z⟩ | ⟨_, z⟩
    · cases z
      obtain ⟨x, hx, rx⟩ := hx
      obtain ⟨y, hy, ry⟩ := hy
      have fin : ∀ {Tp : Addr}, H' Tp = none → Ext H' (upd H' Tp (.tup [x, y])) ∧ Rp K mg m' (upd H' Tp (.tup [x, y])) (.tup [t1, t2]) (.ref Tp) := fun {Tp} hT => by
        have ex := Ext.new (.tup [x, y]) hT
        exact ⟨ex, Tp, _, rfl, SqT.of upd_same, .cons (Rp.mono (Pre.refl _) ex.tups _ _ rx) (.cons (Rp.mono (Pre.refl _) ex.tups _ _ ry) .nil)⟩
      cases hb1 : b.isL with
      | true =>
        rw [hb1] at q; rw [← hb, hb1] at q2
        refine ⟨⟨xs, ys, x, y, q, q2, hx, hy⟩, fun v H2 hv => ?_⟩
        obtain ⟨Tp, x', y', rfl, hT, rfl, f1, f2⟩ := hv
        have z1 := f1 xs q
        rw [hx] at z1; cases z1
        have z2 := f2 ys q2
        rw [hy] at z2; cases z2
        exact fin hT
      | false =>
        rw [hb1] at q; rw [← hb, hb1] at q2
        refine ⟨⟨xs, ys, x, y, q, q2, hx, hy⟩, fun v H2 hv => ?_⟩
        obtain ⟨Tp, x', y', rfl, hT, rfl, f1, f2⟩ := hv
        have z1 := f1 xs q
        rw [hx] at z1; cases z1
        have z2 := f2 ys q2
        rw [hy] at z2; cases z2
        exact fin hT
    · cases z
/-- an iterable's value, held -/
theorem Sim.holdL {ts : List T} {a : Addr} {xs : List V} (s : Sim K mg m h H F) (ha : H a = some (.lst xs)) (fa : F a = none) (na : ∀ i, (h.get i).isSome = true → m[i]? ≠ some a) : Ext F (upd F a (.lst xs)) ∧ Sim K mg m h H (upd F a (.lst xs)) := by
  refine ⟨Ext.new _ fa, s.len, s.obj, s.inj, fun b o e => ?_, fun i us b e1 e2 => ?_⟩
  · by_cases hb : b = a
    · subst hb; rw [upd_same] at e; cases e; exact ha
    · rw [upd_ne hb] at e; exact s.fr b o e
  · have nb : b ≠ a := fun z => by subst z; exact na i (by rw [e1]; rfl) e2
    rw [upd_ne nb]; exact s.sep i us b e1 e2
theorem biOf_ok (s : Sim K mg m h H F) {x : VV} {v : V} (e : biOf h x = some b) (r : RpV K mg F m h H x v) : ∃ a F1, v = .ref a ∧ Ext F F1 ∧ Sim K mg m h H F1 ∧ BIok K mg m H F1 b a ∧ ∃ xs, SqB K b.isL H a xs := by
  cases x with
  | l ts =>
    cases e
    obtain ⟨a, xs, rfl, ha, rs, fa, na⟩ := r
    obtain ⟨ex, s1⟩ := s.holdL (ts := ts) ha fa na
    exact ⟨a, _, rfl, ex, s1, ⟨xs, upd_same, rs⟩, xs, SqL.of ha⟩
  | v t =>
    cases t with
    | tup ts =>
      cases e
      obtain ⟨a, xs, rfl, q, rs⟩ := r
      exact ⟨a, F, rfl, Ext.refl F, s, ⟨xs, q, rs⟩, xs, q⟩
    | fl ts =>
      cases e
      obtain ⟨a, xs, rfl, q, rs⟩ := r
      exact ⟨a, F, rfl, Ext.refl F, s, ⟨xs, q, rs⟩, xs, q.sq⟩
    | ref i =>
      have e : (match h.get i with | some _ => some (BI.lv i) | none => none) = some b := e
      cases eo : h.get i with
      | none => rw [eo] at e; cases e
      | some o =>
        rw [eo] at e; cases e
        obtain ⟨a, ea, rfl⟩ := r
        obtain ⟨a', ea', ro⟩ := s.obj i o eo
        rw [ea] at ea'; cases ea'
        obtain ⟨xs, q, _⟩ := ro.sq
        exact ⟨a, F, rfl, Ext.refl F, s, ea, xs, q⟩
    | _ => cases e
theorem BIok.ext (e : Ext F F1) (r : BIok K mg m H F b a) : BIok K mg m H F1 b a := by
  cases b with
  | tp ts => exact r
  | kl ts => exact r
  | tl ts => obtain ⟨xs, q, rs⟩ := r; exact ⟨xs, e _ _ q, rs⟩
  | lv i => exact r
end

section
variable {X : Cx} {W : WX} {a b e l tg : Expr} {es elts : List Expr} {pos p p2 tpos : Pos} {kk : Nat} {fa fb : En → Hd → Res VV}
abbrev SI (X : Cx) (W : WX) (tg it : Expr) (f : En → Hd → Res ItV) : Prop := PI X tg it (rdI X.K X.mg W f)
/-- a list or a tuple, walked -/
def iSeq (K : PySem.W.Frag) (tl : TE) : TI := fun σ H R => tl σ H fun x H1 => ∃ a xs k, x = .ref a ∧ SqB K k H1 a xs ∧ R (if k = true then Itl K a else Itt K a) H1
theorem walk_list {pins : List (Addr × Obj)} {s : Shared} {σ : L2.St} {H : Hp} {R : L2.It → Hp → Prop} {E : Value → Shared → Prop} {d : Addr} {xs : List V} (I : Inv X pins σ H s) (q : SqL X.K H d xs) (r : R (Itl X.K d) H) :
    wpAny (model X.prog X.w) X.A (pyIter (.ref d)) (PIE X pins σ tg R) E s := by
  obtain ⟨us, _, pl, _⟩ := I.list q
  apply wpAny_pyIter_list pl.isList
  exact ⟨_, [s.heap.objs.size], _, _, H, rfl, I.kept (t' := s.toks) fun _ _ z => Heap.get?_push_of_some _ z, turn_list d _, ⟨_, Heap.get?_push_size _ rfl, rfl, rfl⟩,
    fun c hc => by rw [List.mem_singleton.mp hc]; exact I.fpOk (Nat.le_refl _) (I.hok.fresh (Nat.le_refl _)), r⟩
theorem walk_tup {pins : List (Addr × Obj)} {s : Shared} {σ : L2.St} {H : Hp} {R : L2.It → Hp → Prop} {E : Value → Shared → Prop} {d : Addr} {xs : List V} (I : Inv X pins σ H s) (q : SqT X.K H d xs) (r : R (Itt X.K d) H) :
    wpAny (model X.prog X.w) X.A (pyIter (.ref d)) (PIE X pins σ tg R) E s := by
  obtain ⟨us, _, pt, _⟩ := I.tuple q
  apply wpAny_pyIter_tuple (show s.heap.IsTuple d us.toArray from pt)
  exact ⟨_, [s.heap.objs.size], _, _, H, rfl, I.kept (t' := s.toks) fun _ _ z => Heap.get?_push_of_some _ z, turn_tuple d _, ⟨_, Heap.get?_push_size _ rfl, rfl, rfl⟩,
    fun c hc => by rw [List.mem_singleton.mp hc]; exact I.fpOk (Nat.le_refl _) (I.hok.fresh (Nat.le_refl _)), r⟩
theorem pi_seq {tl : TE} (hl : PE X l tl) : PI X tg l (iSeq X.K tl) := ⟨fun pins s σ H R I h => thn (hl.run pins s σ H _ I h) fun v s1 ⟨x, H1, I1, r1, d, xs, k, e, q, r⟩ => by
  subst e
  cases r1
  cases k with
  | true => exact walk_list I1 q r
  | false => exact walk_tup I1 q r⟩
theorem i_seq (ha : SE X W a fa) : SI X W tg a (fun ρ h => (fa ρ h).bind fun x h => .of ((biOf h x).map .one) h) :=
  (pi_seq ha).imp fun σ H R ⟨ρ, m, h, F, r, s, q⟩ => rd1 r s q fun x m1 h1 H1 v p1 r1 s1 rv a1 => by
    cases e : biOf h1 x with
    | none => rw [e] at a1; exact False.elim a1
    | some b =>
      rw [e] at a1
      obtain ⟨d, F1, rfl, ex, sF, bo, xs, hq⟩ := biOf_ok s1 e rv
      exact ⟨d, xs, b.isL, rfl, hq, Ans.ok (x := ItV.one b) s1 a1 _ F1 ex sF (it_one bo)⟩
theorem small62_ok {i : Int} (h : small62 i = true) : -(2 ^ 62) ≤ i ∧ i < 2 ^ 62 := by
  unfold small62 at h
  simp only [Bool.and_eq_true, decide_eq_true_eq] at h
  omega
theorem i_rng1 (hg : Gl X "range") (hm : X.mg "range" = none) (hs : notStar a = true) (ha : SE X W a fa) : SI X W tg (.Call (.Name "range" p) [a] [] pos) (fun ρ h => (fa ρ h).bind fun x h => .of ((intOf x).bind rng1) h) :=
  (pi_range1 hg hm (pa_cons ha pa_nil (star_cons hs)) (star_cons hs)).imp fun σ H R ⟨ρ, m, h, F, r, s, q⟩ => rd1 r s q fun x m1 h1 H1 v p1 r1 s1 rv a1 => by
    cases e : intOf x with
    | none => rw [e] at a1; exact False.elim a1
    | some j =>
      rw [e] at a1
      have := intOf_ok e
      subst this
      cases rv
      have a1 : Ans X.K X.mg W F m1 H1 σ (.of (rng1 j) h1) _ := a1
      unfold rng1 at a1
      split at a1
      · rename_i hj
        obtain ⟨h1', h2'⟩ := small62_ok hj
        exact ⟨j, rfl, h1', h2', Ans.ok (x := ItV.rng 0 j.toNat) s1 a1 _ F (Ext.refl F) s1 it_rng⟩
      · exact False.elim a1
theorem i_rng2 (hg : Gl X "range") (hm : X.mg "range" = none) (hs : notStar a = true) (hs2 : notStar b = true) (ha : SE X W a fa) (hb : SE X W b fb) :
    SI X W tg (.Call (.Name "range" p) [a, b] [] pos) (fun ρ h => (fa ρ h).bind fun x h => (fb ρ h).bind fun y h => .of ((twoI x y).bind fun p => rng2 p.1 p.2) h) :=
  (pi_rangeB hg hm (pa_cons ha (pa_cons hb pa_nil (star_cons hs2)) (star_cons hs)) (by rw [star_cons hs, star_cons hs2] <;> rfl) (star_cons hs2)).imp fun σ H R ⟨ρ, m, h, F, r, s, q⟩ => rd2 r s q fun x y m1 h1 H1 v w p1 r1 s1 rv rw' a1 => by
    cases e : twoI x y with
    | none => rw [e] at a1; exact False.elim a1
    | some ij =>
      obtain ⟨i, j⟩ := ij
      rw [e] at a1
      obtain ⟨rfl, rfl⟩ := twoI_ok e
      cases rv
      cases rw'
      have a1 : Ans X.K X.mg W F m1 H1 σ (.of (rng2 i j) h1) _ := a1
      unfold rng2 at a1
      split at a1
      · rename_i hj
        rw [Bool.and_eq_true] at hj
        obtain ⟨h1', h2'⟩ := small62_ok hj.1
        obtain ⟨h3', h4'⟩ := small62_ok hj.2
        exact ⟨i, j, rfl, .inl ⟨h1', h2', h3', h4'⟩, Ans.ok (x := ItV.rng i (j - i).toNat) s1 a1 _ F (Ext.refl F) s1 it_rng⟩
      · split at a1
        · rename_i hb
          have hb := of_decide_eq_true hb
          exact ⟨i, j, rfl, .inr (by omega), Ans.ok (x := ItV.rng i (j - i).toNat) s1 a1 _ F (Ext.refl F) s1 it_rng⟩
        · exact False.elim a1
theorem i_enum (hg : Gl X "enumerate") (hm : X.mg "enumerate" = none) (hs : notStar a = true) (ha : SE X W a fa) :
    SI X W (.Tuple elts kk tpos) (.Call (.Name "enumerate" p) [a] [] pos) (fun ρ h => (fa ρ h).bind fun x h => .of ((biOf h x).bind enumI) h) :=
  (pi_enum hg hm (pa_cons ha pa_nil (star_cons hs)) (star_cons hs)).imp fun σ H R ⟨ρ, m, h, F, r, s, q⟩ => rd1 r s q fun x m1 h1 H1 v p1 r1 s1 rv a1 => by
    cases e : biOf h1 x with
    | none => rw [e] at a1; exact False.elim a1
    | some b =>
      rw [e] at a1
      obtain ⟨d, F1, rfl, ex, sF, bo, xs, hq⟩ := biOf_ok s1 e rv
      have a1 : Ans X.K X.mg W F m1 H1 σ (.of (enumI b) h1) _ := a1
      unfold enumI at a1
      split at a1
      · rename_i hb
        rw [hb] at hq
        exact ⟨d, xs, rfl, hq, Ans.ok (x := ItV.enum b) s1 a1 _ F1 ex sF (it_enum hb bo)⟩
      · exact False.elim a1
theorem i_zip (hg : Gl X "zip") (hm : X.mg "zip" = none) (hs : notStar a = true) (hs2 : notStar b = true) (ha : SE X W a fa) (hb : SE X W b fb) :
    SI X W (.Tuple elts kk tpos) (.Call (.Name "zip" p) [a, b] [] pos) (fun ρ h => (fa ρ h).bind fun x h => (fb ρ h).bind fun y h => .of ((biOf h x).bind fun p => (biOf h y).bind fun q => zipI p q) h) :=
  (RZ.pi_zipA hg hm (pa_cons ha (pa_cons hb pa_nil (star_cons hs2)) (star_cons hs)) (star_cons hs) (stars_plain (by show (notStar b && true) = true; rw [hs2] <;> rfl))).imp fun σ H R ⟨ρ, m, h, F, r, s, q⟩ => by
    refine rd1 r s q fun x m1 h1 H1 v p1 r1 s1 rv a1 => ?_
    obtain ⟨F1, ex, sF, keep⟩ := s1.hold rv
    refine ⟨ρ, m1, h1, F1, r1, sF, (a1.bind.fr ex).imp fun y m2 h2 H2 p2 t2 s2 ⟨s2', a2⟩ w rw' => ?_⟩
    have rv2 := keep m2 h2 H2 p2 t2 s2
    cases e : biOf h2 x with
    | none => rw [e] at a2; exact False.elim a2
    | some b1 =>
      rw [e] at a2
      cases e2 : biOf h2 y with
      | none =>
        have a2 : Ans X.K X.mg W F m2 H2 σ (.of ((biOf h2 y).bind fun q => zipI b1 q) h2) _ := a2
        rw [e2] at a2; exact False.elim a2
      | some b2 =>
        have a2 : Ans X.K X.mg W F m2 H2 σ (.of ((biOf h2 y).bind fun q => zipI b1 q) h2) _ := a2
        rw [e2] at a2
        have a2 : Ans X.K X.mg W F m2 H2 σ (.of (zipI b1 b2) h2) _ := a2
        obtain ⟨d1, G1, rfl, ex1, sG1, bo1, xs, hq1⟩ := biOf_ok s2' e rv2
        unfold zipI at a2
        split at a2
        · rename_i hb
          have hb : b1.isL = b2.isL := by simpa using hb
          -- the second one: under the frame that holds the first
          have key : ∃ d2 G2, w = .ref d2 ∧ Ext F G2 ∧ Sim X.K X.mg m2 h2 H2 G2 ∧ BIok X.K X.mg m2 H2 G2 b1 d1 ∧ BIok X.K X.mg m2 H2 G2 b2 d2 ∧ ∃ ys, SqB X.K b2.isL H2 d2 ys := by
            cases y with
            | v t =>
              obtain ⟨d2, G2, e5, ex2, sG2, bo2, ys, hq2⟩ := biOf_ok (F := G1) sG1 (x := .v t) e2 rw'
              exact ⟨d2, G2, e5, ex1.trans ex2, sG2, bo1.ext ex2, bo2, ys, hq2⟩
            | l us =>
              have rwF := rw'.less ex
              obtain ⟨dd, ys, rfl, hd, rs, fd, nd⟩ := rwF
              cases e2
              by_cases hG : G1 dd = none
              · obtain ⟨ex2, sG2⟩ := sG1.holdL (ts := us) hd hG nd
                exact ⟨dd, _, rfl, ex1.trans ex2, sG2, bo1.ext ex2, ⟨ys, upd_same, rs⟩, ys, SqL.of hd⟩
              · obtain ⟨o, eo⟩ := Option.ne_none_iff_exists'.mp hG
                have eo2 := sG1.fr dd o eo
                rw [hd] at eo2; cases eo2
                exact ⟨dd, G1, rfl, ex1, sG1, bo1, ⟨ys, eo, rs⟩, ys, SqL.of hd⟩
          obtain ⟨d2, G2, rfl, exG, sG2, bz1, bz2, ys, hq2⟩ := key
          have fin := Ans.ok (x := ItV.zip b1 b2) s2' a2 _ G2 exG sG2 (it_zip hb bz1 bz2)
          refine ⟨d1, d2, xs, ys, rfl, ?_⟩
          cases hb1 : b1.isL with
          | true =>
            rw [hb1] at hq1 fin; rw [← hb, hb1] at hq2
            exact .inl ⟨hq1, hq2, fin⟩
          | false =>
            rw [hb1] at hq1 fin; rw [← hb, hb1] at hq2
            exact .inr ⟨hq1, hq2, fin⟩
        · exact False.elim a2
end
end Pv
end

section
set_option Elab.async false
set_option linter.all false
set_option maxRecDepth 100000
set_option maxHeartbeats 4000000
namespace Pv
open PySem PySem.Spec PyProof.Rows L2 L2

/-! ### targets -/
mutual
def tgOf (K : PySem.W.Frag) : Tg → TG
  | .nm i => gName i
  | .tp gs => gTup K gs.len (tgsOf K gs)
def tgsOf (K : PySem.W.Frag) : Tgs → TGs
  | .nil => gNil
  | .cons g gs => gCons (tgOf K g) (tgsOf K gs)
def Tgs.len : Tgs → Nat
  | .nil => 0
  | .cons _ gs => gs.len + 1
end
mutual
def Tg.in : Tg → List Nat → Bool
  | .nm i, vs => vs.contains i
  | .tp gs, vs => gs.in vs
def Tgs.in : Tgs → List Nat → Bool
  | .nil, _ => true
  | .cons g gs, vs => g.in vs && gs.in vs
end
section
variable {K : PySem.W.Frag} {mg : Str → Option Value} {m : List Addr} {H : Hp}
theorem wipe_set : ∀ (vs : List Nat) (σ : L2.St) (i : Nat) (x : Option V), i ∈ vs → L2.wipe (σ.set i x) vs = L2.wipe σ vs
  | [], _, _, _, h => absurd h (by simp)
  | v :: vs, σ, i, x, h => by
    show (L2.wipe (σ.set i x) vs).set v none = (L2.wipe σ vs).set v none
    by_cases hm : i ∈ vs
    · rw [wipe_set vs σ i x hm]
    · have hv : i = v := by
        rcases List.mem_cons.mp h with e | e
        · exact e
        · exact absurd e hm
      subst hv
      have : L2.wipe (σ.set i x) vs = (L2.wipe σ vs).set i x := wipe_set_ne vs σ i x hm
      rw [this, List.set_set]
where
  wipe_set_ne : ∀ (vs : List Nat) (σ : L2.St) (i : Nat) (x : Option V), i ∉ vs → L2.wipe (σ.set i x) vs = (L2.wipe σ vs).set i x
    | [], _, _, _, _ => rfl
    | v :: vs, σ, i, x, h => by
      have h1 : i ≠ v := fun e => h (by simp [e])
      have h2 : i ∉ vs := fun e => h (by simp [e])
      show (L2.wipe (σ.set i x) vs).set v none = ((L2.wipe σ vs).set v none).set i x
      rw [wipe_set_ne vs σ i x h2, List.set_comm _ _ h1]
mutual
theorem tg_ok {Q : L2.St → Hp → Prop} : ∀ (g : Tg) (t : T) (x : V) (ρ ρ' : En) (σ : L2.St), bindT g t ρ = some ρ' → RSl K mg m H ρ σ → Rp K mg m H t x →
    (∀ σ', RSl K mg m H ρ' σ' → (∀ vs, g.in vs = true → L2.wipe σ' vs = L2.wipe σ vs) → Q σ' H) → tgOf K g x σ H Q
  | .nm i, t, x, ρ, ρ', σ, e, r, rx, q => by
    have e : some (ρ.set i (some t)) = some ρ' := e
    cases e
    exact q _ (r.set i rx) fun vs h => wipe_set vs σ i _ (by simpa [Tg.in] using h)
  | .tp gs, t, x, ρ, ρ', σ, e, r, rx, q => by
    cases t <;> try (cases e)
    rename_i ts
    obtain ⟨a, xs, rfl, hq, rs⟩ := rx
    have e : bindTs gs ts ρ = some ρ' := e
    exact ⟨a, xs, rfl, hq, by rw [← rs.length]; exact tgs_len gs ts ρ ρ' e, tgs_ok gs ts xs ρ ρ' σ e r rs q⟩
theorem tgs_ok {Q : L2.St → Hp → Prop} : ∀ (gs : Tgs) (ts : List T) (xs : List V) (ρ ρ' : En) (σ : L2.St), bindTs gs ts ρ = some ρ' → RSl K mg m H ρ σ → Rps K mg m H ts xs →
    (∀ σ', RSl K mg m H ρ' σ' → (∀ vs, gs.in vs = true → L2.wipe σ' vs = L2.wipe σ vs) → Q σ' H) → tgsOf K gs xs σ H Q
  | .nil, [], xs, ρ, ρ', σ, e, r, rx, q => by
    cases rx
    cases e
    exact ⟨rfl, q σ r fun _ _ => rfl⟩
  | .nil, _ :: _, xs, ρ, ρ', σ, e, r, rx, q => by cases e
  | .cons g gs, [], xs, ρ, ρ', σ, e, r, rx, q => by cases e
  | .cons g gs, t :: ts, xs, ρ, ρ', σ, e, r, rx, q => by
    obtain ⟨v, vs, rfl, r1, r2⟩ := rx
    have e : (match bindT g t ρ with | some ρ' => bindTs gs ts ρ' | none => none) = some ρ' := e
    cases e1 : bindT g t ρ with
    | none => rw [e1] at e; cases e
    | some ρ1 =>
      rw [e1] at e
      refine ⟨v, vs, rfl, tg_ok g t v ρ ρ1 σ e1 r r1 fun σ1 rs1 w1 => ?_⟩
      refine tgs_ok gs ts vs ρ1 ρ' σ1 e rs1 r2 fun σ2 rs2 w2 => q σ2 rs2 fun ws h => ?_
      have h : (g.in ws && gs.in ws) = true := h
      rw [Bool.and_eq_true] at h
      rw [w2 ws h.2, w1 ws h.1]
theorem tgs_len : ∀ (gs : Tgs) (ts : List T) (ρ ρ' : En), bindTs gs ts ρ = some ρ' → ts.length = gs.len
  | .nil, [], _, _, _ => rfl
  | .nil, _ :: _, _, _, e => by cases e
  | .cons _ _, [], _, _, e => by cases e
  | .cons g gs, t :: ts, ρ, ρ', e => by
    have e : (match bindT g t ρ with | some ρ' => bindTs gs ts ρ' | none => none) = some ρ' := e
    cases e1 : bindT g t ρ with
    | none => rw [e1] at e; cases e
    | some ρ1 => rw [e1] at e; show ts.length + 1 = gs.len + 1; rw [tgs_len gs ts ρ1 ρ' e]
end
end

/-! ### list comprehensions -/
section
variable {K : PySem.W.Frag} {mg : Str → Option Value} {W : WX} {F F1 H H' : Hp} {m m' : List Addr} {h h' : Hd} {σ : L2.St} {ρ : En}
/-- a held list of the walk's own, written -/
theorem Sim.upF {d : Addr} {xs ys : List V} (s : Sim K mg m h H F) (hd : F d = some (.lst xs)) : Sim K mg m h (upd H d (.lst ys)) (upd F d (.lst ys)) ∧ Tups H (upd H d (.lst ys)) := by
  have hH := s.fr d _ hd
  have tp : Tups H (upd H d (.lst ys)) := Tups.write hH (fun _ z => by cases z) (fun _ _ z => by cases z)
  have nin := s.notIn hd
  refine ⟨⟨s.len, fun i o e => ?_, s.inj, fun b o e => ?_, fun i us b e1 e2 => ?_⟩, tp⟩
  · obtain ⟨b, eb, rb⟩ := s.obj i o e
    have nb : b ≠ d := fun z => nin i (by rw [e]; rfl) (by rw [← z]; exact eb)
    refine ⟨b, eb, ?_⟩
    cases o with
    | lst us => obtain ⟨zs, e1, r1⟩ := rb; exact ⟨zs, by rw [upd_ne nb]; exact e1, Rps.mono (Pre.refl _) tp _ _ r1⟩
  · by_cases hb : b = d
    · subst hb; rw [upd_same] at e ⊢; exact e
    · rw [upd_ne hb] at e ⊢; exact s.fr b o e
  · have nb : b ≠ d := fun z => nin i (by rw [e1]; rfl) (by rw [← z]; exact e2)
    rw [upd_ne nb]; exact s.sep i us b e1 e2
def WF : WX := fun _ _ _ _ => False
theorem _root_.Pv.Res.bind_assoc {α β γ : Type} (r : Res α) (f : α → Hd → Res β) (g : β → Hd → Res γ) : (r.bind f).bind g = r.bind fun x h => (f x h).bind g := by cases r <;> rfl
theorem Ans.dead {α : Type} {r : Res α} {P : α → List Addr → Hd → Hp → Prop} {σ' : L2.St} (a : Ans K mg W F m H σ r.dead P) : Ans K mg WF F m H σ' r P := by
  cases r with
  | ok x h => exact a
  | err => exact False.elim a
  | fail => exact a
/-- as long as a larger frame stands -/
theorem ItOk.up {v : ItV} {J : L2.It} (e : Ext F F1) (i : ItOk K mg v J m H F) : ItOk K mg v J m H F1 := fun m' h' H' p t s => i m' h' H' p t (s.less e)
end
section
variable {X : Cx} {W : WX} {a b e l tg it elt c : Expr} {es elts ifs : List Expr} {pos p p2 tpos : Pos} {kk : Nat} {fa fb fe : En → Hd → Res VV} {scope : Scope} {own : List (Str × Nat)}
/-- a comprehension's tests -/
def evTs (f : En → Hd → Res Bool) : TT := fun σ H Q => True
abbrev blkX (X : Cx) (s : Shared) (H : Hp) (scope : Scope) (C : Addr) (cl : List (Str × Addr)) (fp : List Addr) : Cx := X.blk s H scope (compEnvC scope cl C X.env) fp
abbrev SG (X : Cx) (tg : Expr) (g : Tg) : Prop := PG X tg (tgOf X.K g)
theorem rd_lc {fi : En → Hd → Res ItV} {g : Tg} {fc : En → Hd → Res Bool} {vs : List Nat} {Wn : Nat} (hg : g.in vs = true) : ∀ σ H Q,
    rdE X.K X.mg W (fun ρ h => (fi ρ h).bind fun v h => (turns v (fun t h => match bindT g t (wipe ρ vs) with
      | some ρ' => ((fc ρ' h).bind fun b h => if b then (resV (fe ρ' h)).bind fun y h => .ok (some y) h else .ok none h).dead
      | none => .fail) Wn 0 [] h).bind fun ts h => .ok (.l ts) h) σ H Q →
    tLc (rdI X.K X.mg W fi) (tgOf X.K g) (rdB X.K X.mg WF fc) (rdE X.K X.mg WF fe) vs σ H Q := fun σ H Q ⟨ρ, m, h, F, r, s, q⟩ => by
  refine ⟨ρ, m, h, F, r, s, q.bind.imp fun v m1 h1 H1 p1 t1 s1 a1 J F1 ex sF io D hD => ?_⟩
  have r1 := r.mono p1 t1
  -- the loop's state
  let body : T → Hd → Res (Option T) := fun t h => match bindT g t (wipe ρ vs) with
      | some ρ' => ((fc ρ' h).bind fun b h => if b then (resV (fe ρ' h)).bind fun y h => .ok (some y) h else .ok none h).dead
      | none => .fail
  have hFD : F D = none := by
    cases z : F D with
    | none => rfl
    | some o => have := s1.fr D o z; rw [hD] at this; cases this
  have hF1D : F1 D = none := sF.nofr hD
  refine ⟨fun i k H2 => ∃ m2 h2 acc xs, Pre m1 m2 ∧ Tups H1 H2 ∧ Sim X.K X.mg m2 h2 H2 (upd F1 D (.lst xs)) ∧ Rps X.K X.mg m2 H2 acc xs ∧
      Ans X.K X.mg W F m2 H2 σ ((turns v body k i acc h2).bind fun ts h => .ok (VV.l ts) h) (fun x m' h' H' => ∀ v, RpV X.K X.mg F m' h' H' x v → Q v H'), ⟨Wn, m1, h1, [], [], Pre.refl _, ?_, ?_, .nil, ?_⟩, ?_⟩
  · exact (Ext.new _ hD).tups
  · have exD := Ext.new (H := H1) (.lst ([] : List V)) hD
    have s2 := sF.ext exD
    exact (s2.holdL (ts := ([] : List T)) upd_same hF1D fun i hi e => by
      obtain ⟨o, eo⟩ := Option.isSome_iff_exists.mp hi
      obtain ⟨b, eb, rb⟩ := sF.obj i o eo
      rw [e] at eb; cases eb
      cases o with
      | lst us => obtain ⟨zs, e1, _⟩ := rb; rw [hD] at e1; cases e1).2
  · exact a1.later (Ext.new _ hD).tups
  · rintro i k H2 ⟨m2, h2, acc, xs, p2, t2, s2, rs, a2⟩
    have exF : Ext F1 (upd F1 D (.lst xs)) := Ext.new _ hF1D
    have sF1 := s2.less exF
    have r2 := r1.mono p2 t2
    have io2 := io m2 h2 H2 p2 t2 sF1 i
    cases k with
    | zero => exact False.elim a2
    | succ k =>
      have a2 : Ans X.K X.mg W F m2 H2 σ ((match v.at h2 i with
        | some none => Res.ok acc h2
        | some (some t) => (body t h2).bind fun o h' => match o with
          | some y => if acc.length < lim then turns v body k (i + 1) (acc ++ [y]) h' else .fail
          | none => turns v body k (i + 1) acc h'
        | none => .fail).bind fun ts h => .ok (VV.l ts) h) _ := a2
      cases e : v.at h2 i with
      | none => rw [e] at a2; exact False.elim a2
      | some o =>
        rw [e] at a2
        cases o with
        | none =>
          refine .inl ⟨io2.1 e, ?_⟩
          have sF0 := sF1.less ex
          refine Ans.okv (x := .l acc) sF0 a2 _ ⟨D, xs, rfl, s2.fr D _ upd_same, rs, hFD, s2.notIn upd_same⟩
        | some t =>
          obtain ⟨go, hy⟩ := io2.2 t e
          refine .inr ⟨go, fun H3 => ∃ m3 h3 acc' xs', Pre m1 m3 ∧ Tups H1 H3 ∧ Sim X.K X.mg m3 h3 H3 (upd F1 D (.lst xs')) ∧ Rps X.K X.mg m3 H3 acc' xs' ∧
            Ans X.K X.mg W F m3 H3 σ ((turns v body k (i + 1) acc' h3).bind fun ts h => .ok (VV.l ts) h) (fun x m' h' H' => ∀ v, RpV X.K X.mg F m' h' H' x v → Q v H'), fun H3 w => ⟨k, Nat.lt_succ_self k, w⟩, fun x H3 y => ?_⟩
          obtain ⟨ex3, rx⟩ := hy x H3 y
          have s3 := s2.ext ex3
          have a2 : Ans X.K X.mg W F m2 H2 σ (((body t h2).bind fun o h' => match o with
            | some y => if acc.length < lim then turns v body k (i + 1) (acc ++ [y]) h' else .fail
            | none => turns v body k (i + 1) acc h').bind fun ts h => .ok (VV.l ts) h) _ := a2
          have exFF : Ext F (upd F1 D (.lst xs)) := ex.trans exF
          rw [Res.bind_assoc] at a2
          have a3 := ((a2.later ex3.tups).bind).fr exFF
          have a3 : Ans X.K X.mg W (upd F1 D (.lst xs)) m2 H3 σ (match bindT g t (wipe ρ vs) with
            | some ρ' => ((fc ρ' h2).bind fun b h => if b then (resV (fe ρ' h)).bind fun y h => .ok (some y) h else .ok none h).dead
            | none => .fail) _ := a3
          cases eb : bindT g t (wipe ρ vs) with
          | none => rw [eb] at a3; exact False.elim a3
          | some ρ' =>
            rw [eb] at a3
            refine tg_ok g t x (wipe ρ vs) ρ' _ eb ((r2.mono (Pre.refl _) ex3.tups).wipe vs) rx fun σ2 rσ hw => ⟨?_, ?_⟩
            · rw [hw vs hg]
              exact wipe_wipe vs σ
            · refine ⟨ρ', m2, h2, _, rσ, s3, (Ans.dead (σ' := σ2) a3).bind.imp fun kb m4 h4 H4 p4 t4 s4 a4 => ?_⟩
              have tH : Tups H1 H4 := (t2.trans ex3.tups).trans t4
              cases kb with
              | false =>
                simp only [Bool.false_eq_true, if_false]
                have a4 : Ans X.K X.mg WF (upd F1 D (.lst xs)) m4 H4 σ2 (.ok (none : Option T) h4) _ := a4
                have := (a4.ok s4).2
                exact ⟨m4, h4, acc, xs, p2.trans p4, tH, s4, Rps.mono p4 (ex3.tups.trans t4) _ _ rs, this⟩
              | true =>
                simp only [if_true]
                have a4 : Ans X.K X.mg WF (upd F1 D (.lst xs)) m4 H4 σ2 ((resV (fe ρ' h4)).bind fun y h => .ok (some y) h) _ := a4
                refine ⟨ρ', m4, h4, _, rσ.mono p4 t4, s4, (rd_resV a4.bind).imp fun y m5 h5 H5 p5 t5 s5 hx w rw' => ?_⟩
                obtain ⟨m6, p6, s6, r6, a6⟩ := hx w rw'
                have a6 := (a6.ok s6).2
                have a6 : Ans X.K X.mg W F m6 H5 σ ((if acc.length < lim then turns v body k (i + 1) (acc ++ [(alloc y h5).1]) (alloc y h5).2 else .fail).bind fun ts h => .ok (VV.l ts) h) _ := a6
                split at a6
                · rename_i hl
                  have hlx := rs.length
                  refine ⟨xs, s6.fr D _ upd_same, by rw [← hlx, sizeLine_eq]; exact hl, ?_⟩
                  obtain ⟨s7, t7⟩ := s6.upF (ys := xs ++ [w]) upd_same
                  have e7 : upd (upd F1 D (.lst xs)) D (.lst (xs ++ [w])) = upd F1 D (.lst (xs ++ [w])) := by
                    funext b
                    by_cases hb : b = D
                    · subst hb; rw [upd_same, upd_same]
                    · rw [upd_ne hb, upd_ne hb, upd_ne hb]
                  rw [e7] at s7
                  have pp : Pre m2 m6 := p4.trans (p5.trans p6)
                  have tt : Tups H2 (upd H5 D (.lst (xs ++ [w]))) := ((ex3.tups.trans t4).trans t5).trans t7
                  exact ⟨m6, _, acc ++ [(alloc y h5).1], xs ++ [w], p2.trans pp, t2.trans tt, s7, (Rps.mono pp tt _ _ rs).append (.cons (Rp.mono (Pre.refl _) t7 _ _ r6) .nil), a6.later t7⟩
                · exact False.elim a6
where
  wipe_wipe (vs : List Nat) (σ : L2.St) : L2.wipe (L2.wipe σ vs) vs = L2.wipe σ vs := by
    have key : ∀ (us : List Nat) (τ : L2.St), (∀ i ∈ us, i < τ.length → τ[i]? = some none) → L2.wipe τ us = τ := by
      intro us
      induction us with
      | nil => intro τ _; rfl
      | cons i us ih =>
        intro τ hτ
        show (L2.wipe τ us).set i none = τ
        rw [ih τ fun j hj => hτ j (List.mem_cons_of_mem _ hj)]
        apply List.ext_getElem?
        intro n
        by_cases hn : i = n
        · subst hn
          by_cases hl : i < τ.length
          · rw [List.getElem?_set_self hl, hτ i List.mem_cons_self hl]
          · rw [List.getElem?_eq_none (by simpa using hl), List.getElem?_eq_none (by simpa using hl)]
        · rw [List.getElem?_set_ne hn]
    refine key vs _ fun i hi hl => ?_
    have hl : i < (L2.wipe σ vs).length := hl
    rw [List.getElem?_eq_getElem hl]
    cases z : (L2.wipe σ vs)[i] with
    | none => rfl
    | some x =>
      have := (L2.wipe_some (vs := vs) (σ := σ) (i := i) (x := x) (by rw [List.getElem?_eq_getElem hl, z])).2
      exact absurd hi this
theorem pts_none : PTs X [] (rdB X.K X.mg W fun _ h => .ok true h) := ⟨fun pins s σ H Q I ⟨ρ, m, h, F, r, si, a⟩ => pts_nil.run pins s σ H Q I (Ans.ok (x := true) si a)⟩
theorem pts_test {f : En → Hd → Res Bool} (h : ST X W c f) : PTs X [c] (rdB X.K X.mg W f) := pts_one h
def notSet : Expr → Bool
  | .Set .. => false
  | _ => true
theorem folded_id {e : Expr} {env : Env} (h : notSet e = true) (x : Value) : foldedSetIterable e env x = pure x := by
  cases e <;> first | rfl | (cases h)
theorem s_lc {fi : En → Hd → Res ItV} {g : Tg} {fc : En → Hd → Res Bool} {Wn : Nat} (hc : X.calm = true) (hN : X.N.Nodup) (hi : SI X W tg it fi) (ok : BlkOk X.N X.env.scope scope own)
    (hg : ∀ s H C cl fp, SG (blkX X s H scope C cl fp) tg g) (ht : ∀ s H C cl fp, PTs (blkX X s H scope C cl fp) ifs (rdB X.K X.mg WF fc)) (he : ∀ s H C cl fp, SE (blkX X s H scope C cl fp) WF elt fe) (hin : g.in (own.map (·.2)) = true) (hs : notSet it = true) :
    SE X W (.ListComp elt [⟨tg, it, ifs, 0⟩] scope pos) (fun ρ h => (fi ρ h).bind fun v h => (turns v (fun t h => match bindT g t (wipe ρ (own.map (·.2))) with
      | some ρ' => ((fc ρ' h).bind fun b h => if b then (resV (fe ρ' h)).bind fun y h => .ok (some y) h else .ok none h).dead
      | none => .fail) Wn 0 [] h).bind fun ts h => .ok (.l ts) h) :=
  (pe_lc hc hN hi ok hg ht he (folded_id hs)).imp (rd_lc hin)

/-! ### list(range(..)) -/
theorem rg_rps {K : PySem.W.Frag} {mg : Str → Option Value} {m : List Addr} {H : Hp} (lo : Int) : ∀ (l : List Nat), Rps K mg m H (l.map fun i => T.int (lo + (i : Nat))) (l.map fun i => V.int (lo + (i : Nat)))
  | [] => .nil
  | _ :: l => .cons rfl (rg_rps lo l)
theorem rgL_ok {lo hi : Int} {z : VV} (h : rgL lo hi = some z) : RgOk lo hi ∧ z = .l (rgT lo hi) := by
  unfold rgL at h
  split at h
  · rename_i hl
    cases h
    simp only [Bool.and_eq_true, decide_eq_true_eq] at hl
    obtain ⟨h1, h2⟩ := small62_ok hl.1.1
    obtain ⟨h3, h4⟩ := small62_ok hl.1.2
    exact ⟨⟨h1, h2, h3, h4, hl.2⟩, rfl⟩
  · cases h
theorem s_lsR1 (hc : X.calm = true) (hg : Gl X "range") (hm : X.mg "range" = none) (hg2 : Gl X "list") (hm2 : X.mg "list" = none) (hs : notStar a = true) (ha : SE X W a fa) :
    SE X W (.Call (.Name "list" p) [.Call (.Name "range" p2) [a] [] tpos] [] pos) (fun ρ h => (fa ρ h).bind fun x h => .of ((intOf x).bind fun j => rgL 0 j) h) :=
  (pe_listRg hc hg2 hm2 (prg_1 hg hm ha (star_cons hs))).imp fun σ H Q ⟨ρ, m, h, F, r, s, q⟩ => rd1 r s q fun x m1 h1 H1 v p1 r1 s1 rv a1 => by
    cases e : intOf x with
    | none => rw [e] at a1; exact False.elim a1
    | some j =>
      rw [e] at a1
      have := intOf_ok e
      subst this
      cases rv
      have a1 : Ans X.K X.mg W F m1 H1 σ (.of (rgL 0 j) h1) _ := a1
      cases e2 : rgL 0 j with
      | none => rw [e2] at a1; exact False.elim a1
      | some z =>
        rw [e2] at a1
        obtain ⟨hok, rfl⟩ := rgL_ok e2
        refine ⟨j, rfl, hok, fun q hq => ?_⟩
        exact a1 m1 _ (Pre.refl _) (Ext.new _ hq).tups (s1.ext (Ext.new _ hq)) _ (new_l s1 (rg_rps 0 _) hq)
theorem s_lsR2 (hc : X.calm = true) (hg : Gl X "range") (hm : X.mg "range" = none) (hg2 : Gl X "list") (hm2 : X.mg "list" = none) (hs : notStar a = true) (hs2 : notStar b = true) (ha : SE X W a fa) (hb : SE X W b fb) :
    SE X W (.Call (.Name "list" p) [.Call (.Name "range" p2) [a, b] [] tpos] [] pos) (fun ρ h => (fa ρ h).bind fun x h => (fb ρ h).bind fun y h => .of ((twoI x y).bind fun p => rgL p.1 p.2) h) :=
  (pe_listRg hc hg2 hm2 (prg_2 hg hm ha hb (star_cons hs) (star_cons hs2) (stars_plain (by show (notStar b && true) = true; rw [hs2] <;> rfl)))).imp fun σ H Q ⟨ρ, m, h, F, r, s, q⟩ => rd2 r s q fun x y m1 h1 H1 v w p1 r1 s1 rv rw' a1 => by
    cases e : twoI x y with
    | none => rw [e] at a1; exact False.elim a1
    | some ij =>
      obtain ⟨i, j⟩ := ij
      rw [e] at a1
      obtain ⟨rfl, rfl⟩ := twoI_ok e
      cases rv
      cases rw'
      have a1 : Ans X.K X.mg W F m1 H1 σ (.of (rgL i j) h1) _ := a1
      cases e2 : rgL i j with
      | none => rw [e2] at a1; exact False.elim a1
      | some z =>
        rw [e2] at a1
        obtain ⟨hok, rfl⟩ := rgL_ok e2
        refine ⟨i, j, rfl, rfl, hok, fun q hq => ?_⟩
        exact a1 m1 _ (Pre.refl _) (Ext.new _ hq).tups (s1.ext (Ext.new _ hq)) _ (new_l s1 (rg_rps i _) hq)
end
end Pv
end

section
set_option Elab.async false
set_option linter.all false
set_option maxRecDepth 100000
set_option maxHeartbeats 4000000
namespace Pv
open PySem PySem.Spec PyProof.Rows L2 RZ
/-! ### list(zip(..)) of two tuples: the pairs are kept, so the zip makes new ones -/
abbrev ZipOut (h : Heap) (z TI TO T : Addr) (f : Bool) : Prop :=
  h.get? z = some { cls := .type "zip", dict := none, data := .fields #[rawInt T, .bool f, .bool false, .ref TI, .ref TO], slots := #[] }
section
variable {prog : Program} {w : World} {A : Around} {E : Value → Shared → Prop} {s : Shared}
theorem zo_free {z TI TO T : Addr} {f : Bool} {oT : Obj} {Q : Bool → Shared → Prop} (hz : ZipOut s.heap z TI TO T f) (hT : s.heap.get? T = some oT)
    (hQ : ∀ h', ZipOut h' z TI TO T true → Heap.SameBut z s.heap h' → Q false { s with heap := h' }) : wpAny (model prog w) A (Builtin.SmallTypes.ownedTupleIsFree (.ref z)) Q E s := by
  unfold Builtin.SmallTypes.ownedTupleIsFree
  refine wpAny_bind (wpAny_field hz rfl (x := rawInt T) rfl ?_)
  show wpAny _ _ (loadIfAlive ((T : Int).toNat) >>= _) _ _ _
  rw [Int.toNat_natCast]
  refine wpAny_bind (PySem.W.kdx_alive hT ?_)
  simp only [Option.isNone_some, Bool.false_eq_true, if_false]
  refine wpAny_bind (wpAny_field hz rfl (x := .bool f) rfl ?_)
  cases f with
  | true =>
    rw [if_neg (by decide)]
    exact wpAny_pure (hQ _ hz (Heap.SameBut.refl _ _))
  | false =>
    rw [if_pos (by decide)]
    refine wpAny_bind (wpAny_setField_rec hz (by simp) fun h₁ hz₁ hs₁ => ?_)
    exact wpAny_pure (hQ h₁ hz₁ hs₁)
theorem zo_next {z TI TO i1 i2 l1 l2 T : Addr} {f : Bool} {oT : Obj} {k1 k2 : Nat} {xs ys : Array Value} {x y : Value} {Q : Value → Shared → Prop} (D : ZipApart z TI TO i1 i2 l1 l2)
    (hz : ZipOut s.heap z TI TO T f) (hT : s.heap.get? T = some oT) (hTI : IsPair s.heap TI (.ref i1) (.ref i2))
    (h1 : s.heap.IsTupleIter i1 l1 k1) (h2 : s.heap.IsTupleIter i2 l2 k2) (hl1 : s.heap.IsTuple l1 xs) (hl2 : s.heap.IsTuple l2 ys) (hx : xs[k1]? = some x) (hy : ys[k2]? = some y)
    (hQ : ∀ h', ZipOut h' z TI TO T true → h'.IsTupleIter i1 l1 (k1 + 1) → h'.IsTupleIter i2 l2 (k2 + 1) → IsPair h' s.heap.objs.size x y → h'.objs.size = s.heap.objs.size + 1 →
      (∀ c o, c ≠ z → c ≠ i1 → c ≠ i2 → s.heap.get? c = some o → h'.get? c = some o) → Q (.ref s.heap.objs.size) { s with heap := h' }) :
    wpAny (model prog w) A (Builtin.«zip.__next__» ⟨[.ref z], []⟩) (fun fin s' => ∃ v, fin = .done (.ret v) ∧ Q v s') E s := by
  show wpAny _ _ (field (.ref z) 2 >>= _) _ _ _
  refine wpAny_bind (wpAny_field hz rfl (x := .bool false) rfl ?_)
  show wpAny _ _ (field (.ref z) 3 >>= _) _ _ _
  refine wpAny_bind (wpAny_field hz rfl (x := .ref TI) rfl ?_)
  refine wpAny_bind (wpAny_seqItems hTI rfl ?_)
  show wpAny _ _ (Builtin.SmallTypes.ownedTupleIsFree (.ref z) >>= _) _ _ _
  refine wpAny_bind (zo_free hz hT fun h₁ hz₁ hs₁ => ?_)
  simp only [Bool.false_eq_true, if_false]
  refine wpAny_bind ?_
  rw [← Array.forIn_toList]
  simp only [List.forIn_cons, List.forIn_nil]
  refine wpAny_bind (wpAny_bind (wpAny_holding ?_))
  show wpAny _ _ (Builtin.SmallTypes.nextOf (.ref i1) >>= _) _ _ _
  refine wpAny_bind (nextOf_tuple_item (h1.extBut hs₁.extBut D.i1z) (hl1.extBut hs₁.extBut D.l1z) hx fun h₂ h1₂ hs₂ => wpAny_pure ?_)
  refine wpAny_pure ?_
  refine wpAny_bind (wpAny_bind (wpAny_holding ?_))
  show wpAny _ _ (Builtin.SmallTypes.nextOf (.ref i2) >>= _) _ _ _
  refine wpAny_bind (nextOf_tuple_item ((h2.extBut hs₁.extBut D.i2z).extBut hs₂.extBut D.i12.symm) ((hl2.extBut hs₁.extBut D.l2z).extBut hs₂.extBut D.l2i1) hy fun h₃ h2₃ hs₃ => wpAny_pure ?_)
  refine wpAny_pure (wpAny_pure ?_)
  refine wpAny_bind (wpAny_newTuple ?_ (hsz := by show 2 ≤ sizeLine; rw [sizeLine_eq]; decide))
  have hsz : h₃.objs.size = s.heap.objs.size := by rw [hs₃.1, hs₂.1, hs₁.1]
  have hz₃ : ZipOut h₃ z TI TO T true := hs₃.extBut _ _ D.i2z.symm (hs₂.extBut _ _ D.i1z.symm hz₁)
  have hk₃ : ∀ c o, c ≠ z → c ≠ i1 → c ≠ i2 → s.heap.get? c = some o → h₃.get? c = some o := fun c o c1 c3 c4 e => hs₃.extBut _ _ c4 (hs₂.extBut _ _ c3 (hs₁.extBut _ _ c1 e))
  have h1₃ : h₃.IsTupleIter i1 l1 (k1 + 1) := h1₂.extBut hs₃.extBut D.i12
  have up : ∀ c o, h₃.get? c = some o → (h₃.push { cls := .type "tuple", data := .seq #[x, y] }).get? c = some o := fun c o e => Heap.get?_push_of_some _ e
  have hT₄ : IsPair (h₃.push { cls := .type "tuple", data := .seq #[x, y] }) h₃.objs.size x y := Heap.get?_push_size _ rfl
  have hz4 : (h₃.push { cls := .type "tuple", data := .seq #[x, y] }).objs.size = h₃.objs.size + 1 := Heap.size_push ..
  rw [hsz] at hT₄ hz4
  refine wpAny_pure ⟨_, rfl, ?_⟩
  show Q (.ref h₃.objs.size) _
  rw [hsz]
  exact hQ _ (up _ _ hz₃) (h1₃.at fun o e => up _ o e) (h2₃.at fun o e => up _ o e) hT₄ hz4 fun c o c1 c3 c4 e => up c o (hk₃ c o c1 c3 c4 e)
theorem zo_nextEnd {z TI TO i1 i2 l1 l2 T : Addr} {f : Bool} {oT : Obj} {k1 k2 : Nat} {xs ys : Array Value} {Q : Fin → Shared → Prop} (hh : A.handled = none) (D : ZipApart z TI TO i1 i2 l1 l2)
    (hz : ZipOut s.heap z TI TO T f) (hT : s.heap.get? T = some oT) (hTI : IsPair s.heap TI (.ref i1) (.ref i2))
    (h1 : s.heap.IsTupleIter i1 l1 k1) (h2 : s.heap.IsTupleIter i2 l2 k2) (hl1 : s.heap.IsTuple l1 xs) (hl2 : s.heap.IsTuple l2 ys) (hend : xs[k1]? = none ∨ ys[k2]? = none)
    (hE : ∀ h' e, (∀ c o, c ≠ z → c ≠ i1 → c ≠ i2 → s.heap.get? c = some o → h'.get? c = some o) → (∃ o, h'.get? e = some o ∧ o.cls = .type "StopIteration") → E (.ref e) { s with heap := h' }) :
    wpAny (model prog w) A (Builtin.«zip.__next__» ⟨[.ref z], []⟩) Q E s := by
  show wpAny _ _ (field (.ref z) 2 >>= _) _ _ _
  refine wpAny_bind (wpAny_field hz rfl (x := .bool false) rfl ?_)
  show wpAny _ _ (field (.ref z) 3 >>= _) _ _ _
  refine wpAny_bind (wpAny_field hz rfl (x := .ref TI) rfl ?_)
  refine wpAny_bind (wpAny_seqItems hTI rfl ?_)
  show wpAny _ _ (Builtin.SmallTypes.ownedTupleIsFree (.ref z) >>= _) _ _ _
  refine wpAny_bind (zo_free hz hT fun h₁ hz₁ hs₁ => ?_)
  simp only [Bool.false_eq_true, if_false]
  refine wpAny_bind ?_
  rw [← Array.forIn_toList]
  simp only [List.forIn_cons, List.forIn_nil]
  refine wpAny_bind (wpAny_bind (wpAny_holding ?_))
  show wpAny _ _ (Builtin.SmallTypes.nextOf (.ref i1) >>= _) _ _ _
  cases hx : xs[k1]? with
  | none =>
    refine wpAny_bind (nextOf_tuple_end hh (h1.extBut hs₁.extBut D.i1z) (hl1.extBut hs₁.extBut D.l1z) hx fun h₂ e hs₂ he => ?_)
    exact hE h₂ e (fun c o c1 c3 _ x => hs₂ _ _ c3 (hs₁.extBut _ _ c1 x)) he
  | some x =>
    have hy : ys[k2]? = none := by rcases hend with h | h; rw [hx] at h; cases h; exact h
    refine wpAny_bind (nextOf_tuple_item (h1.extBut hs₁.extBut D.i1z) (hl1.extBut hs₁.extBut D.l1z) hx fun h₂ h1₂ hs₂ => wpAny_pure ?_)
    refine wpAny_pure ?_
    refine wpAny_bind (wpAny_bind (wpAny_holding ?_))
    show wpAny _ _ (Builtin.SmallTypes.nextOf (.ref i2) >>= _) _ _ _
    refine wpAny_bind (nextOf_tuple_end hh ((h2.extBut hs₁.extBut D.i2z).extBut hs₂.extBut D.i12.symm) ((hl2.extBut hs₁.extBut D.l2z).extBut hs₂.extBut D.l2i1) hy fun h₃ e hs₃ he => ?_)
    exact hE h₃ e (fun c o c1 c3 c4 x => hs₃ _ _ c4 (hs₂.extBut _ _ c3 (hs₁.extBut _ _ c1 x))) he
theorem zo_pyNext {z TI TO i1 i2 l1 l2 T : Addr} {f : Bool} {oT : Obj} {k1 k2 : Nat} {xs ys : Array Value} {x y : Value} {Q : Option Value → Shared → Prop} (D : ZipApart z TI TO i1 i2 l1 l2)
    (hz : ZipOut s.heap z TI TO T f) (hT : s.heap.get? T = some oT) (hTI : IsPair s.heap TI (.ref i1) (.ref i2))
    (h1 : s.heap.IsTupleIter i1 l1 k1) (h2 : s.heap.IsTupleIter i2 l2 k2) (hl1 : s.heap.IsTuple l1 xs) (hl2 : s.heap.IsTuple l2 ys) (hx : xs[k1]? = some x) (hy : ys[k2]? = some y)
    (hQ : ∀ h', ZipOut h' z TI TO T true → h'.IsTupleIter i1 l1 (k1 + 1) → h'.IsTupleIter i2 l2 (k2 + 1) → IsPair h' s.heap.objs.size x y → h'.objs.size = s.heap.objs.size + 1 →
      (∀ c o, c ≠ z → c ≠ i1 → c ≠ i2 → s.heap.get? c = some o → h'.get? c = some o) → Q (some (.ref s.heap.objs.size)) { s with heap := h' }) :
    wpAny (model prog w) A (pyNext (.ref z)) Q E s := by
  have hTy : s.TypeIs (.ref z) "zip" := ⟨_, hz, rfl⟩
  unfold pyNext
  exact wpAny_bind (wpAny_attempt (wpAny_callSpecial?_slot (name := Str.ofString "__next__") hTy F.slot_zip_next
    (wpAny_call_entry F.slot_zip_next hTy F.entry_zip_next
      (zo_next D hz hT hTI h1 h2 hl1 hl2 hx hy fun h' a1 a2 a3 a4 a5 a6 => wpAny_pure (hQ h' a1 a2 a3 a4 a5 a6)) (F.args_zip_next_1 _))))
theorem zo_pyEnd {z TI TO i1 i2 l1 l2 T : Addr} {f : Bool} {oT : Obj} {k1 k2 : Nat} {xs ys : Array Value} {Q : Option Value → Shared → Prop} (hh : A.handled = none) (D : ZipApart z TI TO i1 i2 l1 l2)
    (hz : ZipOut s.heap z TI TO T f) (hT : s.heap.get? T = some oT) (hTI : IsPair s.heap TI (.ref i1) (.ref i2))
    (h1 : s.heap.IsTupleIter i1 l1 k1) (h2 : s.heap.IsTupleIter i2 l2 k2) (hl1 : s.heap.IsTuple l1 xs) (hl2 : s.heap.IsTuple l2 ys) (hend : xs[k1]? = none ∨ ys[k2]? = none)
    (hQ : ∀ h', (∀ c o, c ≠ z → c ≠ i1 → c ≠ i2 → s.heap.get? c = some o → h'.get? c = some o) → Q none { s with heap := h' }) : wpAny (model prog w) A (pyNext (.ref z)) Q E s := by
  have hTy : s.TypeIs (.ref z) "zip" := ⟨_, hz, rfl⟩
  unfold pyNext
  refine wpAny_bind (wpAny_attempt (wpAny_callSpecial?_slot (name := Str.ofString "__next__") hTy F.slot_zip_next
    (wpAny_call_entry F.slot_zip_next hTy F.entry_zip_next (zo_nextEnd hh D hz hT hTI h1 h2 hl1 hl2 hend fun h' e hk he => ?_) (F.args_zip_next_1 _))))
  obtain ⟨o, ho, hc⟩ := he
  refine wpAny_bind (wpAny_isInstance (T := "StopIteration") (b := true) ⟨o, ho, hc⟩ isSubtype_stop ?_)
  exact wpAny_pure (hQ _ hk)
/-! the whole list -/
structure ZSt (h : Heap) (z TI TO i1 i2 l1 l2 S : Addr) (xs ys : Array Value) (i : Nat) : Prop where
  iz : (IsZip h z TI TO .none ∧ ∃ a b, IsPair h TO a b) ∨ ∃ T f oT, ZipOut h z TI TO T f ∧ h.get? T = some oT ∧ T ≠ z ∧ T ≠ S ∧ T ≠ i1 ∧ T ≠ i2
  ti : IsPair h TI (.ref i1) (.ref i2)
  h1 : h.IsTupleIter i1 l1 i
  h2 : h.IsTupleIter i2 l2 i
  l1 : h.IsTuple l1 xs
  l2 : h.IsTuple l2 ys
structure ZFar (z TI TO i1 i2 l1 l2 S : Addr) : Prop where
  D : ZipApart z TI TO i1 i2 l1 l2
  z : z < S
  TI : TI < S
  TO : TO < S
  i1 : i1 < S
  i2 : i2 < S
  l1 : l1 < S
  l2 : l2 < S
theorem ZSt.keep {h h' : Heap} {z TI TO i1 i2 l1 l2 S : Addr} {xs ys : Array Value} {i : Nat} (Z : ZFar z TI TO i1 i2 l1 l2 S) (x : ZSt h z TI TO i1 i2 l1 l2 S xs ys i) (hk : ∀ b o, b ≠ S → h.get? b = some o → h'.get? b = some o) : ZSt h' z TI TO i1 i2 l1 l2 S xs ys i := by
  refine ⟨?_, hk _ _ (Nat.ne_of_lt Z.TI) x.ti, x.h1.at fun o e => hk _ o (Nat.ne_of_lt Z.i1) e, x.h2.at fun o e => hk _ o (Nat.ne_of_lt Z.i2) e, x.l1.at fun o e => hk _ o (Nat.ne_of_lt Z.l1) e, x.l2.at fun o e => hk _ o (Nat.ne_of_lt Z.l2) e⟩
  rcases x.iz with ⟨a, b, c, d⟩ | ⟨T, f, oT, a, b, c, d, e⟩
  · exact .inl ⟨hk _ _ (Nat.ne_of_lt Z.z) a, b, c, hk _ _ (Nat.ne_of_lt Z.TO) d⟩
  · exact .inr ⟨T, f, oT, hk _ _ (Nat.ne_of_lt Z.z) a, hk _ _ d b, c, d, e⟩
structure ZG (xs ys : Array Value) (lo : Addr) (h : Heap) (as : List Addr) : Prop where
  rise : as.Pairwise (· < ·)
  above : ∀ a ∈ as, lo < a
  pairs : ∀ (j : Nat) (a : Addr), as[j]? = some a → ∃ x y, xs[j]? = some x ∧ ys[j]? = some y ∧ IsPair h a x y
theorem ZG.there {xs ys : Array Value} {lo : Addr} {h : Heap} {as : List Addr} (g : ZG xs ys lo h as) {a : Addr} (ha : a ∈ as) : a < h.objs.size := by
  obtain ⟨j, hj⟩ := List.mem_iff_getElem?.mp ha
  obtain ⟨_, _, _, _, e⟩ := g.pairs j a hj
  exact Heap.lt_size e
section
variable {z TI TO i1 i2 l1 l2 S : Addr} {xs ys : Array Value}
theorem z_item {i : Nat} {x y : Value} {Q : Option Value → Shared → Prop} (Z : ZFar z TI TO i1 i2 l1 l2 S) (hS : S < s.heap.objs.size) (st : ZSt s.heap z TI TO i1 i2 l1 l2 S xs ys i) (hx : xs[i]? = some x) (hy : ys[i]? = some y)
    (hQ : ∀ h', ZSt h' z TI TO i1 i2 l1 l2 S xs ys (i + 1) → IsPair h' s.heap.objs.size x y → h'.objs.size = s.heap.objs.size + 1 → (∀ c o, c ≠ z → c ≠ TO → c ≠ i1 → c ≠ i2 → s.heap.get? c = some o → h'.get? c = some o) → Q (some (.ref s.heap.objs.size)) { s with heap := h' }) :
    wpAny (model prog w) A (pyNext (.ref z)) Q E s := by
  have D := Z.D
  have fresh : s.heap.objs.size ≠ z ∧ s.heap.objs.size ≠ S ∧ s.heap.objs.size ≠ i1 ∧ s.heap.objs.size ≠ i2 := ⟨Nat.ne_of_gt (Nat.lt_trans Z.z hS), Nat.ne_of_gt hS, Nat.ne_of_gt (Nat.lt_trans Z.i1 hS), Nat.ne_of_gt (Nat.lt_trans Z.i2 hS)⟩
  rcases st.iz with ⟨hz, a, b, hTO⟩ | ⟨T, f, oT, hz, hT, Tz, TS, Ti1, Ti2⟩
  · exact pyNext_zipT_item D hz st.ti hTO st.h1 st.h2 st.l1 st.l2 hx hy fun h' a1 a2 a3 a4 a5 a6 a7 => hQ h' ⟨.inr ⟨_, false, _, a1, a5, fresh.1, fresh.2.1, fresh.2.2.1, fresh.2.2.2⟩, a7 _ _ D.TIz D.TITO D.TIi1 D.TIi2 st.ti, a3, a4,
      st.l1.at fun o e => a7 _ o D.l1z D.l1TO D.l1i1 D.l1i2 e, st.l2.at fun o e => a7 _ o D.l2z D.l2TO D.l2i1 D.l2i2 e⟩ a5 a6 a7
  · exact zo_pyNext D hz hT st.ti st.h1 st.h2 st.l1 st.l2 hx hy fun h' a1 a3 a4 a5 a6 a7 => hQ h' ⟨.inr ⟨T, true, oT, a1, a7 _ _ Tz Ti1 Ti2 hT, Tz, TS, Ti1, Ti2⟩, a7 _ _ D.TIz D.TIi1 D.TIi2 st.ti, a3, a4,
      st.l1.at fun o e => a7 _ o D.l1z D.l1i1 D.l1i2 e, st.l2.at fun o e => a7 _ o D.l2z D.l2i1 D.l2i2 e⟩ a5 a6 fun c o c1 _ c3 c4 e => a7 c o c1 c3 c4 e
theorem z_done {i : Nat} {Q : Option Value → Shared → Prop} (hh : A.handled = none) (Z : ZFar z TI TO i1 i2 l1 l2 S) (st : ZSt s.heap z TI TO i1 i2 l1 l2 S xs ys i) (hend : xs[i]? = none ∨ ys[i]? = none)
    (hQ : ∀ h', (∀ c o, c ≠ z → c ≠ TO → c ≠ i1 → c ≠ i2 → s.heap.get? c = some o → h'.get? c = some o) → Q none { s with heap := h' }) : wpAny (model prog w) A (pyNext (.ref z)) Q E s := by
  rcases st.iz with ⟨hz, a, b, hTO⟩ | ⟨T, f, oT, hz, hT, Tz, TS, Ti1, Ti2⟩
  · exact pyNext_zipT_end hh Z.D hz st.ti hTO st.h1 st.h2 st.l1 st.l2 hend hQ
  · exact zo_pyEnd hh Z.D hz hT st.ti st.h1 st.h2 st.l1 st.l2 hend fun h' hk => hQ h' fun c o c1 _ c3 c4 e => hk c o c1 c3 c4 e
theorem z_loop {R : Result → Shared → Prop} (hh : A.handled = none) (Z : ZFar z TI TO i1 i2 l1 l2 S) (hn : xs.size ≤ sizeLine) (res : Value) {h₁ : Heap}
    (hR : ∀ h' tk acc c as, (∀ b o, b ≠ S → b ≠ z → b ≠ TO → b ≠ i1 → b ≠ i2 → h₁.get? b = some o → h'.get? b = some o) → h'.get? S = some { cls := .type "list", dict := none, data := .seq acc c, slots := #[] } → as.length = min xs.size ys.size → ZG xs ys S h' as →
      acc.toList = as.map Value.ref → R (.ok (.ret res)) { s with heap := h', toks := tk }) :
    ∀ (k i : Nat) (h : Heap) (tk c : Nat) (acc : Array Value) (as : List Addr), min xs.size ys.size - i = k → i ≤ min xs.size ys.size → ZSt h z TI TO i1 i2 l1 l2 S xs ys i → (∀ b o, b ≠ S → b ≠ z → b ≠ TO → b ≠ i1 → b ≠ i2 → h₁.get? b = some o → h.get? b = some o) →
      h.get? S = some { cls := .type "list", dict := none, data := .seq acc c, slots := #[] } → acc.toList = as.map Value.ref → as.length = i → ZG xs ys S h as →
      codeAny (model prog w) A (.builtin "list.extend.loop" ⟨[.ref S, .ref z, res], []⟩) R { s with heap := h, toks := tk } := by
  have nz : S ≠ z := Nat.ne_of_gt Z.z
  have nTO : S ≠ TO := Nat.ne_of_gt Z.TO
  have n1 : S ≠ i1 := Nat.ne_of_gt Z.i1
  have n2 : S ≠ i2 := Nat.ne_of_gt Z.i2
  intro k
  induction k with
  | zero =>
    intro i h tk c acc as hk hi hst hkeep hS hacc hal hG
    have hin : xs[i]? = none ∨ ys[i]? = none := by
      rcases Nat.le_total xs.size ys.size with q | q
      · exact .inl (Array.getElem?_eq_none (by rw [Nat.min_eq_left q] at hk hi; omega))
      · exact .inr (Array.getElem?_eq_none (by rw [Nat.min_eq_right q] at hk hi; omega))
    refine codeAny_builtin PySem.F.entry_extend_loop ?_
    rw [Around.under_plainId PySem.F.plain_extend_loop _]
    show wpAny _ A.in1 (pyNext (.ref z) >>= _) _ _ _
    refine wpAny_bind (z_done (s := { s with heap := h, toks := tk }) (A := A.in1) hh Z hst hin fun h' he => ?_)
    refine wpAny_pure (hR h' tk acc c as (fun b o q0 q1 q2 q3 q4 e => he b o q1 q2 q3 q4 (hkeep b o q0 q1 q2 q3 q4 e)) (he S _ nz nTO n1 n2 hS) (by omega) ⟨hG.rise, hG.above, fun j a hj => ?_⟩ hacc)
    obtain ⟨x, y, e1, e2, e3⟩ := hG.pairs j a hj
    have hb := hG.above a (List.mem_of_getElem? hj)
    exact ⟨x, y, e1, e2, he a _ (Nat.ne_of_gt (Nat.lt_trans Z.z hb)) (Nat.ne_of_gt (Nat.lt_trans Z.TO hb)) (Nat.ne_of_gt (Nat.lt_trans Z.i1 hb)) (Nat.ne_of_gt (Nat.lt_trans Z.i2 hb)) e3⟩
  | succ k ih =>
    intro i h tk c acc as hk hi hst hkeep hS hacc hal hG
    have hlx : i < xs.size := Nat.lt_of_lt_of_le (by omega) (Nat.min_le_left xs.size ys.size)
    have hly : i < ys.size := Nat.lt_of_lt_of_le (by omega) (Nat.min_le_right xs.size ys.size)
    have hsz : acc.size = i := by rw [← Array.length_toList, hacc, List.length_map, hal]
    have hSl : S < h.objs.size := Heap.lt_size hS
    refine codeAny_builtin PySem.F.entry_extend_loop ?_
    rw [Around.under_plainId PySem.F.plain_extend_loop _]
    show wpAny _ A.in1 (pyNext (.ref z) >>= _) _ _ _
    refine wpAny_bind (z_item (s := { s with heap := h, toks := tk }) Z hSl hst (Array.getElem?_eq_getElem hlx) (Array.getElem?_eq_getElem hly) fun h' hst' ht hz hkp => ?_)
    dsimp only at ht hz hkp ⊢
    have hS' := hkp S _ nz nTO n1 n2 hS
    have up : ∀ b o, b ≠ S → h'.get? b = some o → (h'.update S (Obj.mapSeq (·.push (Value.ref h.objs.size)))).get? b = some o := fun b o hb e => (Heap.get?_update_other _ _ (Ne.symm hb)).trans e
    show wpAny _ A.in1 (updateSeq S (·.push (Value.ref h.objs.size)) >>= _) _ _ _
    refine wpAny_bind ?_
    refine wpAny_updateSeq hS' rfl (wpAny_pure ⟨plainId_quiet PySem.F.plain_extend_loop _, ih (i + 1) _ tk _ (acc.push (Value.ref h.objs.size)) (as ++ [h.objs.size]) (by omega) (by omega) (hst'.keep Z up)
      (fun b o q0 q1 q2 q3 q4 e => up b o q0 (hkp b o q1 q2 q3 q4 (hkeep b o q0 q1 q2 q3 q4 e))) (Heap.get?_update_self _ hS' rfl) (by rw [Array.toList_push, hacc, List.map_append]; rfl) (by rw [List.length_append, hal]; rfl) ⟨?_, ?_, ?_⟩⟩) (by rw [hsz]; omega) (by show (acc.push (Value.ref h.objs.size)).size ≤ sizeLine + 1; rw [Array.size_push, hsz]; omega)
    · refine List.pairwise_append.mpr ⟨hG.rise, List.pairwise_singleton _ _, fun a ha b hb => ?_⟩
      rw [List.mem_singleton.mp hb]
      exact hG.there ha
    · intro a ha
      rcases List.mem_append.mp ha with ha | ha
      · exact hG.above a ha
      · rw [List.mem_singleton.mp ha]; exact hSl
    · intro j b hj
      rcases Nat.lt_trichotomy j as.length with q | q | q
      · rw [List.getElem?_append_left q] at hj
        obtain ⟨x, y, e1, e2, e3⟩ := hG.pairs j b hj
        have hb := hG.above b (List.mem_of_getElem? hj)
        exact ⟨x, y, e1, e2, up b _ (Nat.ne_of_gt hb) (hkp b _ (Nat.ne_of_gt (Nat.lt_trans Z.z hb)) (Nat.ne_of_gt (Nat.lt_trans Z.TO hb)) (Nat.ne_of_gt (Nat.lt_trans Z.i1 hb)) (Nat.ne_of_gt (Nat.lt_trans Z.i2 hb)) e3)⟩
      · subst q
        have hb : h.objs.size = b := by simpa using hj
        subst hb
        exact ⟨xs[i], ys[i], by rw [hal]; exact Array.getElem?_eq_getElem hlx, by rw [hal]; exact Array.getElem?_eq_getElem hly, up _ _ (Nat.ne_of_gt hSl) ht⟩
      · have hnone : (as ++ [h.objs.size])[j]? = none := List.getElem?_eq_none (by rw [List.length_append, List.length_singleton]; omega)
        rw [hnone] at hj; cases hj
end
end
theorem zip_no_len : typeLookup (.type "zip") "__len__" = pure none := by rw [typeLookup_type, builtinLookup_eq_fast]; kernel_rfl
theorem zip_no_hint : typeLookup (.type "zip") "__length_hint__" = pure none := by rw [typeLookup_type, builtinLookup_eq_fast]; kernel_rfl
section
variable {prog : Program} {w : World} {A : Around} {E : Value → Shared → Prop} {s : Shared} {z TI TO i1 i2 l1 l2 S : Addr} {xs ys : Array Value}
theorem z_extend {R : Result → Shared → Prop} (hh : A.handled = none) (Z : ZFar z TI TO i1 i2 l1 l2 S) (hz0 : IsZip s.heap z TI TO .none) (st : ZSt s.heap z TI TO i1 i2 l1 l2 S xs ys 0) (hn : xs.size ≤ sizeLine) (res : Value) (c₀ : Nat)
    (hS : s.heap.get? S = some { cls := .type "list", data := .seq #[] c₀ })
    (hR : ∀ h' tk acc c as, (∀ b o, b ≠ S → b ≠ z → b ≠ TO → b ≠ i1 → b ≠ i2 → s.heap.get? b = some o → h'.get? b = some o) → h'.get? S = some { cls := .type "list", dict := none, data := .seq acc c, slots := #[] } → as.length = min xs.size ys.size → ZG xs ys S h' as →
      acc.toList = as.map Value.ref → R (.ok (.ret res)) { s with heap := h', toks := tk }) :
    wpAny (model prog w) A.in1 (Builtin.List.listExtendWith (.ref S) (.ref z) res)
      (fun fin s' => match fin with | .done f => R (.ok f) s' | .again c' => c'.quiet = true ∧ codeAny (model prog w) A c' R s') (fun e s' => R (.error e) s') s := by
  have hT : s.TypeIs (.ref z) "zip" := ⟨_, hz0, rfl⟩
  unfold Builtin.List.listExtendWith
  refine wpAny_bind (wpAny_typeOf hT ?_)
  have h1 : Builtin.List.listSameRef (.ref S) (.ref z) = false := by simp [Builtin.List.listSameRef, Nat.ne_of_gt Z.z]
  have h2 : (Value.type "zip" == Value.type "list") = false := by decide
  have h3 : (Value.type "zip" == Value.type "tuple") = false := by decide
  simp only [h1, h2, h3, Bool.or_false, Bool.false_eq_true, if_false]
  refine wpAny_bind (wpAny_pyIter_zip hz0 ?_)
  refine wpAny_bind (wpAny_holding ?_)
  unfold Builtin.List.listLengthHint
  refine wpAny_bind (wpAny_specialOf hT zip_no_len ?_)
  show wpAny _ A.in1 (specialOf (Value.ref z) (Str.ofString "__length_hint__") >>= _) _ _ _
  refine wpAny_bind (wpAny_specialOf hT zip_no_hint ?_)
  refine wpAny_pure ?_
  have key : ∀ (h : Heap) (c tk : Nat), (∀ b o, b ≠ S → s.heap.get? b = some o → h.get? b = some o) → h.get? S = some { cls := .type "list", dict := none, data := .seq #[] c, slots := #[] } →
      codeAny (model prog w) A (.builtin "list.extend.loop" ⟨[.ref S, .ref z, res], []⟩) R { s with heap := h, toks := tk } := fun h c tk hk hS' =>
    z_loop (h₁ := s.heap) hh Z hn res hR _ 0 h tk c #[] [] rfl (Nat.zero_le _) (st.keep Z hk) (fun b o q0 _ _ _ _ e => hk b o q0 e) hS' rfl rfl ⟨List.Pairwise.nil, (fun _ ha => nomatch ha), (fun j a hj => by simp at hj)⟩
  refine wpAny_ite_split (fun _ => ?_) (fun _ => wpAny_pure ⟨plainId_quiet PySem.F.plain_extend_loop _, key s.heap c₀ s.toks (fun _ _ _ e => e) hS⟩)
  refine wpAny_bind (wpAny_rule ?_)
  refine wpAny_bind ?_
  show wpAny _ _ (updateSeq S (·.push .none) >>= fun _ => updateSeq S (·.pop)) _ _ _
  refine wpAny_bind (wpAny_updateSeq hS rfl ?_)
  have hS₂ := Heap.get?_update_self (Obj.mapSeq (·.push Value.none)) hS rfl
  refine wpAny_updateSeq (hz := by seq_fits) hS₂ rfl ?_
  have hS₃ := Heap.get?_update_self (Obj.mapSeq (·.pop)) hS₂ rfl
  refine wpAny_pure ⟨plainId_quiet PySem.F.plain_extend_loop _, key _ _ _ (fun b o hb e => ?_) hS₃⟩
  exact (Heap.get?_update_other _ _ (Ne.symm hb)).trans ((Heap.get?_update_other _ _ (Ne.symm hb)).trans e)
theorem z_call {Q : Value → Shared → Prop} (hh : A.handled = none) (Z : ZFar z TI TO i1 i2 l1 l2 s.heap.objs.size) (hz0 : IsZip s.heap z TI TO .none) (st : ZSt s.heap z TI TO i1 i2 l1 l2 s.heap.objs.size xs ys 0) (hn : xs.size ≤ sizeLine)
    (hQ : ∀ h' tk acc c as, (∀ b o, b ≠ z → b ≠ TO → b ≠ i1 → b ≠ i2 → s.heap.get? b = some o → h'.get? b = some o) → h'.get? s.heap.objs.size = some { cls := .type "list", dict := none, data := .seq acc c, slots := #[] } → as.length = min xs.size ys.size → ZG xs ys s.heap.objs.size h' as →
      acc.toList = as.map Value.ref → Q (.ref s.heap.objs.size) { s with heap := h', toks := tk }) :
    wpAny (model prog w) A (call (.type "list") [.ref z]) Q E s := by
  refine callType_codes (Q₁ := fun obj s₁ => obj = .ref s.heap.objs.size ∧ s₁ = { s with heap := s.heap.push { cls := .type "list", data := .seq #[] } }) PySem.F.called_list (PySem.F.typeCall_list_1 _) PySem.F.entry_list_init
    (code_list_new _ ⟨rfl, rfl⟩) fun obj s₁ h₁ => ?_
  obtain ⟨rfl, rfl⟩ := h₁
  have hS : (s.heap.push { cls := .type "list", data := .seq #[] }).get? s.heap.objs.size = some { cls := .type "list", data := .seq #[] } := Heap.get?_push_size _ rfl
  have old : ∀ b o, s.heap.get? b = some o → b ≠ s.heap.objs.size := fun b o e => Nat.ne_of_lt (Heap.lt_size e)
  refine ⟨⟨_, hS, rfl⟩, PySem.F.args_list_init_2 _ _, ?_⟩
  show wpAny _ _ (do let old ← Builtin.List.listItems (.ref s.heap.objs.size); Builtin.List.listUpdate (.ref s.heap.objs.size) (fun _ => #[]); letGo old.toList.reverse; Builtin.List.listExtendWith (.ref s.heap.objs.size) (.ref z) .none) _ _ _
  refine wpAny_bind ?_
  unfold Builtin.List.listItems
  refine wpAny_bind (wpAny_seqItems hS rfl (wpAny_pure ?_))
  show wpAny _ _ (updateSeq s.heap.objs.size (fun _ => #[]) >>= fun _ => letGo (#[] : Array Value).toList.reverse >>= fun _ => Builtin.List.listExtendWith (.ref s.heap.objs.size) (.ref z) .none) _ _ _
  refine wpAny_bind (wpAny_updateSeq hS rfl ?_)
  have hS₂ := Heap.get?_update_self (Obj.mapSeq (fun _ => (#[] : Array Value))) hS rfl
  have oth : ∀ b o, s.heap.get? b = some o → ((s.heap.push { cls := .type "list", data := .seq #[] }).update s.heap.objs.size (Obj.mapSeq (fun _ => (#[] : Array Value)))).get? b = some o :=
    fun b o e => (Heap.get?_update_other _ _ (Ne.symm (old b o e))).trans (Heap.get?_push_of_some _ e)
  refine wpAny_bind (wpAny_letGo ?_)
  refine z_extend (A := A.in1) hh Z (oth _ _ hz0) ⟨?_, oth _ _ st.ti, st.h1.at fun o e => oth _ o e, st.h2.at fun o e => oth _ o e, st.l1.at fun o e => oth _ o e, st.l2.at fun o e => oth _ o e⟩ hn .none _ hS₂ fun h' tk acc c as hk hS' hl hG hacc => ?_
  · rcases st.iz with ⟨a, b, c, d⟩ | ⟨T, f, oT, a, b, c, d, e⟩
    · exact .inl ⟨oth _ _ a, b, c, oth _ _ d⟩
    · exact .inr ⟨T, f, oT, oth _ _ a, oth _ _ b, c, d, e⟩
  · exact ⟨rfl, hQ h' tk acc c as (fun b o q1 q2 q3 q4 e => hk b o (old b o e) q1 q2 q3 q4 (oth b o e)) hS' hl hG hacc⟩
end
end Pv
end

section
set_option Elab.async false
set_option linter.all false
set_option maxRecDepth 100000
set_option maxHeartbeats 4000000
namespace Pv
open PySem PySem.Spec PyProof.Rows L2
/-- pairs tracked at their addresses -/
def putP : Hp → List Addr → List (V × V) → Hp
  | H, d :: ds, q :: qs => putP (upd H d (.tup [q.1, q.2])) ds qs
  | H, _, _ => H
theorem putP_off {b : Addr} : ∀ (ds : List Addr) (qs : List (V × V)) (H : Hp), b ∉ ds → putP H ds qs b = H b
  | [], _, _, _ => rfl
  | _ :: _, [], _, _ => rfl
  | d :: ds, q :: qs, H, h => by
    rw [List.mem_cons, not_or] at h
    show putP (upd H d (.tup [q.1, q.2])) ds qs b = H b
    rw [putP_off ds qs _ h.2, upd_ne h.1]
theorem putP_at : ∀ (ds : List Addr) (qs : List (V × V)) (H : Hp) (j : Nat) (d : Addr), ds.length = qs.length → ds.Nodup → ds[j]? = some d → ∃ q, qs[j]? = some q ∧ putP H ds qs d = some (.tup [q.1, q.2])
  | [], _, _, _, _, _, _, h => by simp at h
  | _ :: _, [], _, _, _, hl, _, _ => by simp at hl
  | d :: ds, q :: qs, H, 0, e, hl, nd, h => by
    have : d = e := by simpa using h
    subst this
    refine ⟨q, rfl, ?_⟩
    show putP (upd H d (.tup [q.1, q.2])) ds qs d = _
    rw [putP_off ds qs _ (List.nodup_cons.mp nd).1, upd_same]
  | d :: ds, q :: qs, H, j + 1, e, hl, nd, h => by
    obtain ⟨u, h1, h2⟩ := putP_at ds qs (upd H d (.tup [q.1, q.2])) j e (by simpa using hl) (List.nodup_cons.mp nd).2 (by simpa using h)
    exact ⟨u, by simpa using h1, h2⟩
section
variable {X : Cx} {W : WX} {a b : Expr} {p p2 pos tpos : Pos} {fa fb : En → Hd → Res VV} {ta : TA}
def tZipL (K : PySem.W.Frag) (ta : TA) : TE := fun σ H Q => ta σ H fun vs H1 => ∃ c d xs ys, vs = [.ref c, .ref d] ∧ SqT K H1 c xs ∧ SqT K H1 d ys ∧
  ∀ (H' : Hp) (l : Addr) (ds : List Addr), Ext H1 H' → H1 l = none → H' l = some (.lst (ds.map V.ref)) → ds.length = (xs.zip ys).length → (∀ (j : Nat) (t : Addr), ds[j]? = some t → ∃ q, (xs.zip ys)[j]? = some q ∧ H' t = some (.tup [q.1, q.2])) → Q (.ref l) H'
theorem zip_get {α β : Type} : ∀ {xs : List α} {ys : List β} {j : Nat} {q : α × β}, (xs.zip ys)[j]? = some q → xs[j]? = some q.1 ∧ ys[j]? = some q.2
  | x :: xs, y :: ys, 0, q, h => by
    have : (x, y) = q := by simpa using h
    subst this
    exact ⟨rfl, rfl⟩
  | x :: xs, y :: ys, j + 1, q, h => by
    have := zip_get (xs := xs) (ys := ys) (j := j) (by simpa using h)
    simpa using this
  | [], _, _, _, h => by simp at h
  | _ :: _, [], _, _, h => by simp at h
theorem pe_listZip (hc : X.calm = true) (hg : Gl X "list") (hm : X.mg "list" = none) (hg2 : Gl X "zip") (hm2 : X.mg "zip" = none) (hs1 : notStar a = true) (hs2 : notStar b = true) (ha : PA X [a, b] ta) :
    PE X (.Call (.Name "list" p) [.Call (.Name "zip" p2) [a, b] [] tpos] [] pos) (tZipL X.K ta) := by
  refine ⟨fun pins s σ H Q I h => ?_⟩
  have na : starEach [.Call (.Name "zip" p2) [a, b] [] tpos] X.env = (false, eval (.Call (.Name "zip" p2) [a, b] [] tpos) X.env) :: starEach [] X.env := rfl
  refine Call_ (ld_blt I hg hm boot_list (PyProof.Rows.callWith_type1 (PyProof.Rows.args_cons ?_ na) na rfl))
  refine Call_ (ld_blt I hg2 hm2 PyProof.Rows.boot_zip (PyProof.Rows.callWith_type1 (thn (ha.run tpos pins s σ H _ I h) fun us s1 ⟨vs, H1, I1, r1, q1⟩ => ?_) (star_cons hs1) (stars_plain (by show (notStar b && true) = true; rw [hs2] <;> rfl))))
  obtain ⟨c, d, xs, ys, rfl, hx, hy, q⟩ := q1
  obtain ⟨u1, u2, rfl, r1, r2⟩ := L2.Vals.two r1
  cases r1
  cases r2
  obtain ⟨its, rx, p1, hzx⟩ := I1.tuple hx
  obtain ⟨its2, ry, p2, hzy⟩ := I1.tuple hy
  have p1' : s1.heap.IsTuple c its.toArray := p1
  have p2' : s1.heap.IsTuple d its2.toArray := p2
  have hlc : c < s1.heap.objs.size := by obtain ⟨_, e, _⟩ := id p1; exact Heap.lt_size e
  have hld : d < s1.heap.objs.size := by obtain ⟨_, e, _⟩ := id p2; exact Heap.lt_size e
  refine RZ.call_zipT p1' p2' fun h5 hz hTI hTO h1 h2 hsz hk => ?_
  refine PyProof.Rows.args_nil ?_
  have Z : ZFar (s1.heap.objs.size + 4) (s1.heap.objs.size + 2) (s1.heap.objs.size + 3) s1.heap.objs.size (s1.heap.objs.size + 1) c d h5.objs.size := by
    rw [hsz]
    exact ⟨PySem.W.ktu_apart s1.heap.objs.size c d hlc hld, Nat.lt_succ_self _, Nat.add_lt_add_left (by decide : 2 < 5) _, Nat.add_lt_add_left (by decide : 3 < 5) _, Nat.lt_add_of_pos_right (by decide), Nat.add_lt_add_left (by decide : 1 < 5) _, Nat.lt_of_lt_of_le hlc (Nat.le_add_right _ _), Nat.lt_of_lt_of_le hld (Nat.le_add_right _ _)⟩
  have I2 : Inv X pins σ H1 { s1 with heap := h5 } := I1.kept (t' := s1.toks) hk
  refine z_call (s := { s1 with heap := h5 }) (xs := its.toArray) (ys := its2.toArray) (I1.ok.hd hc) Z hz ⟨.inl ⟨hz, _, _, hTO⟩, hTI, h1, h2, p1'.at fun o e => hk _ o e, p2'.at fun o e => hk _ o e⟩ (by rw [List.size_toArray, ← rx.length]; exact hzx) fun h' tk acc c' as hk' hS hl hG hacc => ?_
  -- what was there is there
  have old : ∀ b o, s1.heap.get? b = some o → h'.get? b = some o := fun b o e => by
    have hb := Heap.lt_size e
    exact hk' b o (Nat.ne_of_lt (Nat.lt_of_lt_of_le hb (Nat.le_add_right _ 4))) (Nat.ne_of_lt (Nat.lt_of_lt_of_le hb (Nat.le_add_right _ 3))) (Nat.ne_of_lt hb) (Nat.ne_of_lt (Nat.lt_of_lt_of_le hb (Nat.le_add_right _ 1))) (hk b o e)
  have le5 : s1.heap.objs.size ≤ h5.objs.size := by rw [hsz]; omega
  have lxs := rx.length
  have lys := ry.length
  have hlen : as.length = (xs.zip ys).length := by rw [hl, List.length_zip, List.size_toArray, List.size_toArray, lxs, lys]
  have nd : as.Nodup := List.Pairwise.imp (fun {a b} (h : a < b) => Nat.ne_of_lt h) hG.rise
  have new : ∀ t ∈ as, H1 t = none := fun t ht => I1.hok.fresh (Nat.le_trans le5 (Nat.le_of_lt (hG.above t ht)))
  have newS : H1 h5.objs.size = none := I1.hok.fresh le5
  have hSn : h5.objs.size ∉ as := fun z => Nat.lt_irrefl _ (hG.above _ z)
  have eS : putP (upd H1 h5.objs.size (.lst (as.map V.ref))) as (xs.zip ys) h5.objs.size = some (.lst (as.map V.ref)) := by rw [putP_off as _ _ hSn, upd_same]
  have off : ∀ b, b ∉ as → b ≠ h5.objs.size → putP (upd H1 h5.objs.size (.lst (as.map V.ref))) as (xs.zip ys) b = H1 b := fun b h1 h2 => by rw [putP_off as _ _ h1, upd_ne h2]
  have kp : Ext H1 (putP (upd H1 h5.objs.size (.lst (as.map V.ref))) as (xs.zip ys)) := fun b u e => by
    rw [off b (fun z => by rw [new b z] at e; cases e) (fun z => by rw [z, newS] at e; cases e)]
    exact e
  have atP : ∀ (j : Nat) (t : Addr), as[j]? = some t → ∃ q, (xs.zip ys)[j]? = some q ∧ putP (upd H1 h5.objs.size (.lst (as.map V.ref))) as (xs.zip ys) t = some (.tup [q.1, q.2]) := fun j t e => putP_at as _ _ j t hlen nd e
  refine ⟨.ref h5.objs.size, _, ?_, rfl, q _ _ as kp newS eS hlen atP⟩
  refine I1.call' (ch := []) (s' := { s1 with heap := h', toks := tk }) rfl ⟨fun b o q _ _ _ => old b o q, fun b o q _ _ _ => ⟨o.slots, old b o q⟩, fun b o q n _ => ?_, fun b o q _ => ⟨o, old b o q⟩, fun b xs q => kp b _ q, fun b o u q => kp b _ q, fun b ps q => ⟨#[], by rw [kp b _ q]; simp⟩⟩ (fun b u q => ?_) I1.bare fun b z => by simp at z
  · have hb := Heap.lt_size q
    rw [off b (fun z => absurd hb (Nat.not_lt.mpr (Nat.le_trans le5 (Nat.le_of_lt (hG.above b z))))) (fun z => by rw [z] at hb; exact absurd hb (Nat.not_lt.mpr le5))]
    exact n
  · by_cases hb : b ∈ as
    · obtain ⟨j, e1⟩ := List.mem_iff_getElem?.mp hb
      obtain ⟨pq, e2, e3⟩ := atP j b e1
      rw [e3] at q
      cases q
      obtain ⟨x, y, f1, f2, f3⟩ := hG.pairs j b e1
      obtain ⟨g1, g2⟩ := zip_get e2
      obtain ⟨v1, w1, z1⟩ := rx.get g1
      obtain ⟨v2, w2, z2⟩ := ry.get g2
      have f1 : its[j]? = some x := by simpa using f1
      have f2 : its2[j]? = some y := by simpa using f2
      rw [w1] at f1; cases f1
      rw [w2] at f2; cases f2
      exact ⟨by show 2 ≤ sizeLine; decide, [_, _], .cons z1 (.cons z2 .nil), ⟨_, f3, rfl, _, rfl⟩⟩
    · by_cases hb2 : b = h5.objs.size
      · rw [hb2] at q ⊢
        rw [eS] at q
        cases q
        refine ⟨?_, acc.toList, c', by rw [hacc]; exact LiI.vals_refs as, ?_⟩
        · rw [List.length_map, hlen, List.length_zip]
          exact Nat.le_trans (Nat.min_le_left _ _) hzx
        · rw [Array.toArray_toList]
          exact hS
      · rw [off b hb hb2] at q
        exact (I1.hok b u q).stay (fun d v _ y => old d v y) (fun d y => kp d _ y) fun d xs y => kp d _ y
theorem zipT_rps {K : PySem.W.Frag} {mg : Str → Option Value} {m : List Addr} {H : Hp} : ∀ {ts us : List T} {xs ys : List V} {ds : List Addr}, Rps K mg m H ts xs → Rps K mg m H us ys → ds.length = (xs.zip ys).length → (∀ (j : Nat) (t : Addr), ds[j]? = some t → ∃ q, (xs.zip ys)[j]? = some q ∧ H t = some (.tup [q.1, q.2])) → Rps K mg m H (zipT ts us) (ds.map V.ref)
  | [], us, xs, ys, ds, r1, r2, hl, ha => by
    cases r1
    have : ds = [] := by simpa using hl
    subst this
    exact .nil
  | t :: ts, [], xs, ys, ds, r1, r2, hl, ha => by
    cases r2
    have : ds = [] := by simpa using hl
    subst this
    exact .nil
  | t :: ts, u :: us, xs, ys, ds, r1, r2, hl, ha => by
    obtain ⟨v, vs, rfl, a1, a2⟩ := r1
    obtain ⟨w, ws, rfl, b1, b2⟩ := r2
    cases ds with
    | nil => simp at hl
    | cons d ds =>
      obtain ⟨q, e1, e2⟩ := ha 0 d rfl
      have : (v, w) = q := by simpa using e1
      subst this
      exact .cons ⟨d, _, rfl, SqT.of e2, .cons a1 (.cons b1 .nil)⟩ (zipT_rps a2 b2 (by simpa using hl) fun j t e => by
        obtain ⟨q, f1, f2⟩ := ha (j + 1) t (by simpa using e)
        exact ⟨q, by simpa using f1, f2⟩)
theorem s_lsZ (hc : X.calm = true) (hg : Gl X "zip") (hm : X.mg "zip" = none) (hg2 : Gl X "list") (hm2 : X.mg "list" = none) (hs : notStar a = true) (hs2 : notStar b = true) (ha : SE X W a fa) (hb : SE X W b fb) :
    SE X W (.Call (.Name "list" p) [.Call (.Name "zip" p2) [a, b] [] tpos] [] pos) (fun ρ h => (fa ρ h).bind fun x h => (fb ρ h).bind fun y h => .of (zipL h x y) h) :=
  (pe_listZip hc hg2 hm2 hg hm hs hs2 (pa_cons ha (pa_cons hb pa_nil (star_cons hs2)) (star_cons hs))).imp fun σ H Q ⟨ρ, m, h, F, r, s, q⟩ => rd2 r s q fun x y m1 h1 H1 v w p1 r1 s1 rv rw' a1 => by
    cases e : zipL h1 x y with
    | none => rw [e] at a1; exact False.elim a1
    | some z =>
      rw [e] at a1
      unfold zipL at e
      split at e
      · rename_i ts us ex ey
        split at e
        · cases e
          obtain ⟨c, xs, rfl, rx, hcx⟩ := items_ok s1 ex rv
          obtain ⟨d, ys, rfl, ry, hcy⟩ := items_ok s1 ey rw'
          have hx : SqT X.K H1 c xs := by rcases hcx with ⟨z, _⟩ | ⟨_, z⟩; cases z; exact z
          have hy : SqT X.K H1 d ys := by rcases hcy with ⟨z, _⟩ | ⟨_, z⟩; cases z; exact z
          refine ⟨c, d, xs, ys, rfl, hx, hy, fun H2 l ds e2 hl hlst hlen hat => ?_⟩
          have s2 := s1.ext e2
          refine a1 m1 H2 (Pre.refl _) e2.tups s2 _ ⟨l, ds.map V.ref, rfl, hlst, zipT_rps (Rps.mono (Pre.refl _) e2.tups _ _ rx) (Rps.mono (Pre.refl _) e2.tups _ _ ry) hlen hat, s1.nofr hl, fun i hi ei => ?_⟩
          obtain ⟨o, eo⟩ := Option.isSome_iff_exists.mp hi
          obtain ⟨b, eb, rb⟩ := s1.obj i o eo
          rw [ei] at eb; cases eb
          cases o with
          | lst us => obtain ⟨_, q, _⟩ := rb; rw [hl] at q; cases q
        · cases e
      · cases e
end
end Pv
end

section
set_option Elab.async false
set_option linter.all false
set_option maxRecDepth 100000
set_option maxHeartbeats 4000000
namespace Pv
open PySem PySem.Spec PyProof.Rows L2
section
variable (K : PySem.W.Frag) (mg : Str → Option Value)
def AnsS (W : WX) (D : Ends) (F : Hp) (m : List Addr) (H : Hp) (r : RS) : Prop := match r with
  | .nx ρ h' => ∀ m' H' σ', Pre m m' → Tups H H' → RSl K mg m' H' ρ σ' → Sim K mg m' h' H' F → D.nx σ' H'
  | .bk ρ h' => ∀ m' H' σ', Pre m m' → Tups H H' → RSl K mg m' H' ρ σ' → Sim K mg m' h' H' F → D.bk σ' H'
  | .ct ρ h' => ∀ m' H' σ', Pre m m' → Tups H H' → RSl K mg m' H' ρ σ' → Sim K mg m' h' H' F → D.ct σ' H'
  | .rt t h' => ∀ m' H' v, Pre m m' → Tups H H' → Sim K mg m' h' H' F → Rp K mg m' H' t v → D.rt v H'
  | .err c p ρ h' => ∀ m' H' σ' C d, Pre m m' → Tups H H' → RSl K mg m' H' ρ σ' → Sim K mg m' h' H' F → RpX K mg m' H' c p C d → W C d σ' H'
  | .fail => False
def rdS (W : WX) (f : En → Hd → RS) : TS := fun D σ H => ∃ ρ m h F, RSl K mg m H ρ σ ∧ Sim K mg m h H F ∧ AnsS K mg W D F m H (f ρ h)
end
section
variable {K : PySem.W.Frag} {mg : Str → Option Value} {W : WX} {F F1 H H' : Hp} {m m' : List Addr} {h h' : Hd} {σ : L2.St} {ρ : En} {D D' : Ends} {α : Type}
theorem AnsS.later {r : RS} (p : Pre m m') (t : Tups H H') (a : AnsS K mg W D F m H r) : AnsS K mg W D F m' H' r := by
  cases r with
  | nx ρ h' => exact fun m2 H2 σ' p2 t2 => a m2 H2 σ' (p.trans p2) (t.trans t2)
  | bk ρ h' => exact fun m2 H2 σ' p2 t2 => a m2 H2 σ' (p.trans p2) (t.trans t2)
  | ct ρ h' => exact fun m2 H2 σ' p2 t2 => a m2 H2 σ' (p.trans p2) (t.trans t2)
  | rt x h' => exact fun m2 H2 v p2 t2 => a m2 H2 v (p.trans p2) (t.trans t2)
  | err c q ρ h' => exact fun m2 H2 σ' C d p2 t2 => a m2 H2 σ' C d (p.trans p2) (t.trans t2)
  | fail => exact a
theorem AnsS.fr {r : RS} (e : Ext F F1) (a : AnsS K mg W D F m H r) : AnsS K mg W D F1 m H r := by
  cases r with
  | nx ρ h' => exact fun m2 H2 σ' p2 t2 r s => a m2 H2 σ' p2 t2 r (s.less e)
  | bk ρ h' => exact fun m2 H2 σ' p2 t2 r s => a m2 H2 σ' p2 t2 r (s.less e)
  | ct ρ h' => exact fun m2 H2 σ' p2 t2 r s => a m2 H2 σ' p2 t2 r (s.less e)
  | rt x h' => exact fun m2 H2 v p2 t2 s => a m2 H2 v p2 t2 (s.less e)
  | err c q ρ h' => exact fun m2 H2 σ' C d p2 t2 r s => a m2 H2 σ' C d p2 t2 r (s.less e)
  | fail => exact a
theorem AnsS.nx (r : RSl K mg m H ρ σ) (s : Sim K mg m h H F) (a : AnsS K mg W D F m H (.nx ρ h)) : D.nx σ H := a m H σ (Pre.refl _) (Tups.refl _) r s
theorem AnsS.bindS {r : Res α} {g : α → Hd → RS} (rs : RSl K mg m H ρ σ) (a : AnsS K mg W D F m H (r.bindS ρ g)) : Ans K mg W F m H σ r fun x m' h' H' => AnsS K mg W D F m' H' (g x h') := by
  cases r with
  | ok x h' =>
    have a : AnsS K mg W D F m H (g x h') := a
    exact fun m' H' p t s => a.later p t
  | err c q h' =>
    have a : AnsS K mg W D F m H (.err c q ρ h') := a
    exact fun m' H' C d p t s rx => a m' H' σ C d p t (rs.mono p t) s rx
  | fail => exact a
theorem AnsS.err {c : Str} {q : Option T} {P : α → List Addr → Hd → Hp → Prop} (rs : RSl K mg m H ρ σ) (a : AnsS K mg W D F m H (.err c q ρ h')) : Ans K mg W F m H σ (.err c q h' : Res α) P :=
  fun m' H' C d p t s rx => a m' H' σ C d p t (rs.mono p t) s rx
end

section
variable {X : Cx} {W : WX} {a b c e o i tg it : Expr} {st : Stmt} {sts p q : List Stmt} {pos pos' px py pt : Pos} {fa fb fe fo fi : En → Hd → Res VV} {f g : En → Hd → RS}
abbrev SS (X : Cx) (W : WX) (st : Stmt) (f : En → Hd → RS) : Prop := PS X st (rdS X.K X.mg W f)
abbrev SSs (X : Cx) (W : WX) (sts : List Stmt) (f : En → Hd → RS) : Prop := PSs X sts (rdS X.K X.mg W f)
theorem _root_.L2.PS.imp {t t' : TS} (p : PS X st t) (i : ∀ D σ H, t' D σ H → t D σ H) : PS X st t' := ⟨fun pins s σ H D I q => p.run pins s σ H D I (i D σ H q)⟩
theorem _root_.L2.PSs.imp {t t' : TS} (p : PSs X sts t) (i : ∀ D σ H, t' D σ H → t D σ H) : PSs X sts t' := ⟨fun pins s σ H D I q => p.run pins s σ H D I (i D σ H q)⟩
/-- one expression, then something -/
theorem rdS1 {α : Type} {D : Ends} {m : List Addr} {h : Hd} {H F : Hp} {σ : L2.St} {ρ : En} {x : Res α} {g : α → Hd → RS} {P : α → List Addr → Hd → Hp → Prop} (r : RSl X.K X.mg m H ρ σ) (s : Sim X.K X.mg m h H F) (a : AnsS X.K X.mg W D F m H (x.bindS ρ g))
    (n : ∀ x m1 h1 H1, Pre m m1 → Tups H H1 → RSl X.K X.mg m1 H1 ρ σ → Sim X.K X.mg m1 h1 H1 F → AnsS X.K X.mg W D F m1 H1 (g x h1) → P x m1 h1 H1) : Ans X.K X.mg W F m H σ x P :=
  (a.bindS r).imp fun x m1 h1 H1 p t s1 a1 => n x m1 h1 H1 p t (r.mono p t) s1 a1
/-- a value laid, then something -/
theorem rdS_v {D : Ends} {m : List Addr} {h : Hd} {H F : Hp} {σ : L2.St} {ρ : En} {f : En → Hd → Res VV} {g : T → Hd → RS} {Q : VK} (r : RSl X.K X.mg m H ρ σ) (s : Sim X.K X.mg m h H F) (a : AnsS X.K X.mg W D F m H ((resV (f ρ h)).bindS ρ g))
    (n : ∀ t m1 h1 H1 v, Pre m m1 → Tups H H1 → RSl X.K X.mg m1 H1 ρ σ → Sim X.K X.mg m1 h1 H1 F → Rp X.K X.mg m1 H1 t v → AnsS X.K X.mg W D F m1 H1 (g t h1) → Q v H1) : rdE X.K X.mg W f σ H Q := by
  refine ⟨ρ, m, h, F, r, s, (rd_resV (a.bindS r)).imp fun x m1 h1 H1 p1 t1 s1 hx v rv => ?_⟩
  obtain ⟨m2, p2, s2, r2, a2⟩ := hx v rv
  exact n _ m2 _ H1 v (p1.trans p2) t1 (r.mono (p1.trans p2) t1) s2 r2 a2
theorem ss_pass : SS X W (.Pass pos) (fun ρ h => .nx ρ h) := ps_pass.imp fun D σ H ⟨ρ, m, h, F, r, s, a⟩ => a.nx r s
theorem ss_break : SS X W (.Break pos) (fun ρ h => .bk ρ h) := ps_break.imp fun D σ H ⟨ρ, m, h, F, r, s, a⟩ => a m H σ (Pre.refl _) (Tups.refl _) r s
theorem ss_cont : SS X W (.Continue pos) (fun ρ h => .ct ρ h) := ps_continue.imp fun D σ H ⟨ρ, m, h, F, r, s, a⟩ => a m H σ (Pre.refl _) (Tups.refl _) r s
theorem ss_never : SS X W st (fun _ _ => .fail) := ps_never.imp fun D σ H ⟨ρ, m, h, F, r, s, a⟩ => a
def notLc : Expr → Bool
  | .ListComp .. | .SetComp .. | .DictComp .. => false
  | _ => true
theorem swaps_no {e : Expr} {tg : Option Expr} {l : Nat} {env : Env} (h : notLc e = true) : swapsWith e tg l env = pure false := by
  cases e <;> first | rfl | (cases h)
theorem swaps_tg {e tg : Expr} {l : Nat} {env : Env} (h : ∀ x p, tg ≠ .Name x p) : swapsWith e (some tg) l env = pure false := by
  cases tg <;> first | (exact absurd rfl (h _ _)) | (cases e <;> rfl)
theorem ss_expr (hl : notLc e = true) (he : SE X W e fe) : SS X W (.Expr e pos) (fun ρ h => (fe ρ h).bindS ρ fun _ h => .nx ρ h) :=
  (ps_expr he (swaps_no hl)).imp fun D σ H ⟨ρ, m, h, F, r, s, a⟩ => ⟨ρ, m, h, F, r, s, rdS1 r s a fun x m1 h1 H1 p t r1 s1 a1 v rv => a1.nx r1 s1⟩
theorem ss_ret (he : SE X W e fe) : SS X W (.Return (some e) pos) (fun ρ h => (resV (fe ρ h)).bindS ρ fun t h => .rt t h) :=
  (ps_ret he).imp fun D σ H ⟨ρ, m, h, F, r, s, a⟩ => rdS_v r s a fun t m1 h1 H1 v p t' r1 s1 rv a1 => a1 m1 H1 v (Pre.refl _) (Tups.refl _) s1 rv
theorem ss_retN : SS X W (.Return none pos) (fun _ h => .rt .non h) :=
  ps_retN.imp fun D σ H ⟨ρ, m, h, F, r, s, a⟩ => a m H _ (Pre.refl _) (Tups.refl _) s rfl
theorem rd_asg {g : Tg} : ∀ D σ H, rdS X.K X.mg W (fun ρ h => (resV (fe ρ h)).bindS ρ fun t h => match bindT g t ρ with
    | some ρ' => .nx ρ' h
    | none => .fail) D σ H → tAsg (rdE X.K X.mg W fe) (tgOf X.K g) D σ H := fun D σ H ⟨ρ, m, h, F, r, s, a⟩ => rdS_v r s a fun t m1 h1 H1 v p t' r1 s1 rv a1 => by
  cases e : bindT g t ρ with
  | none => rw [e] at a1; exact False.elim a1
  | some ρ' =>
    rw [e] at a1
    exact tg_ok g t v ρ ρ' σ e r1 rv fun σ' rs' _ => a1.nx rs' s1
theorem ss_set {j : Nat} {x : Str} (hN : X.N.Nodup) (hi : X.N[j]? = some x) (hx : Loc X.env.scope x) (hf : X.fn x = true ∨ X.env.scope.names.lookup x = some .local) (hl : swapsWith e (some (.Name x pos')) pos.line X.env = pure false) (he : SE X W e fe) :
    SS X W (.Assign [.Name x pos'] e pos) (fun ρ h => (resV (fe ρ h)).bindS ρ fun t h => match bindT (.nm j) t ρ with
    | some ρ' => .nx ρ' h
    | none => .fail) := (ps_set hN hi hx he hl hf).imp (rd_asg (g := .nm j))
theorem ss_asg {g : Tg} (hg : SG X tg g) (he : SE X W e fe) (hs : swapsWithSole [tg] e pos.line X.env = pure false) (hw : swappedStores [tg] e X.env = pure none) (hst : notStar tg = true) :
    SS X W (.Assign [tg] e pos) (fun ρ h => (resV (fe ρ h)).bindS ρ fun t h => match bindT g t ρ with
    | some ρ' => .nx ρ' h
    | none => .fail) := (ps_asg he hg hs hw (by cases tg <;> first | rfl | (cases hst))).imp rd_asg
theorem ss_setLc {j : Nat} {y : Str} {elt : Expr} {ifs : List Expr} {scope : Scope} {own : List (Str × Nat)} {spos : Pos} {fi : En → Hd → Res ItV} {g : Tg} {fc : En → Hd → Res Bool} {Wn : Nat} (hc : X.calm = true) (hN : X.N.Nodup) (hy : X.N[j]? = some y) (hyl : X.env.scope.names.lookup y = some .local)
    (hsw : swapsWith (.ListComp elt [⟨tg, it, ifs, 0⟩] scope pos) (some (.Name y py)) spos.line X.env = pure true) (hi : SI X W tg it fi) (ok : BlkOk X.N X.env.scope scope own)
    (hg : ∀ s H C cl fp, SG (blkX X s H scope C cl fp) tg g) (ht : ∀ s H C cl fp, PTs (blkX X s H scope C cl fp) ifs (rdB X.K X.mg WF fc)) (he : ∀ s H C cl fp, SE (blkX X s H scope C cl fp) WF elt fe) (hin : g.in (own.map (·.2)) = true) (hs : notSet it = true) :
    SS X W (.Assign [.Name y py] (.ListComp elt [⟨tg, it, ifs, 0⟩] scope pos) spos) (fun ρ h => (resV ((fi ρ h).bind fun v h => (turns v (fun t h => match bindT g t (wipe ρ (own.map (·.2))) with
      | some ρ' => ((fc ρ' h).bind fun b h => if b then (resV (fe ρ' h)).bind fun y h => .ok (some y) h else .ok none h).dead
      | none => .fail) Wn 0 [] h).bind fun ts h => .ok (.l ts) h)).bindS ρ fun t h => match bindT (.nm j) t ρ with
    | some ρ' => .nx ρ' h
    | none => .fail) :=
  (ps_setLc hc hN hy hyl hsw hi ok hg ht he (folded_id hs)).imp fun D σ H q => by
    have q2 := rd_asg (g := .nm j) (fe := fun ρ h => (fi ρ h).bind fun v h => (turns v (fun t h => match bindT g t (wipe ρ (own.map (·.2))) with
      | some ρ' => ((fc ρ' h).bind fun b h => if b then (resV (fe ρ' h)).bind fun y h => .ok (some y) h else .ok none h).dead
      | none => .fail) Wn 0 [] h).bind fun ts h => .ok (.l ts) h) D σ H q
    exact rd_lc hin σ H _ q2
theorem ss_par {j k : Nat} {x y : Str} {kt k2 : Nat} {pt2 : Pos} (hc : X.calm = true) (hN : X.N.Nodup) (hi : X.N[j]? = some x) (hj : X.N[k]? = some y) (hij : j ≠ k)
    (hx : X.env.scope.names.lookup x = some .local) (hy : X.env.scope.names.lookup y = some .local) (hs1 : notStar a = true) (hs2 : notStar b = true) (ha : SE X W a fa) (hb : SE X W b fb)
    (hw : swappedStores [.Tuple [.Name x px, .Name y py] kt pt] (.Tuple [a, b] k2 pt2) X.env = pure (some [x, y])) :
    SS X W (.Assign [.Tuple [.Name x px, .Name y py] kt pt] (.Tuple [a, b] k2 pt2) pos) (fun ρ h => (resV (fa ρ h)).bindS ρ fun t h => (resV (fb ρ h)).bindS ρ fun u h => .nx ((ρ.set j (some t)).set k (some u)) h) :=
  (ps_par hc hN hi hj hij hx hy (pa_cons ha (pa_cons hb pa_nil (star_cons hs2)) (star_cons hs1)) hw rfl).imp fun D σ H ⟨ρ, m, h, F, r, s, q⟩ => by
    refine rdS_v r s q fun t m1 h1 H1 v p t1 r1 s1 rv a1 => rdS_v r1 s1 a1 fun u m2 h2 H2 w p2 t2 r2 s2 rw' a2 => ?_
    exact ⟨v, w, rfl, a2.nx ((r2.set j (Rp.mono p2 t2 _ _ rv)).set k rw') s2⟩
theorem ss_setix (hl : swapsWithSole [.Subscript o i pos'] e pos.line X.env = pure false) (hw : swappedStores [.Subscript o i pos'] e X.env = pure none) (hsl : notSlice i = true) (he : SE X W e fe) (ho : SE X W o fo) (hi : SE X W i fi) :
    SS X W (.Assign [.Subscript o i pos'] e pos) (fun ρ h => (resV (fe ρ h)).bindS ρ fun t h => (fo ρ h).bindS ρ fun x h => match x with
    | .v (.ref a) => (fi ρ h).bindS ρ fun y h => match y, h.get a with
      | .v (.int k), some (.lst ts) => match L2.ixN ts.length k with
        | some j => .nx ρ (h.put a (.lst (ts.set j t)))
        | none => .fail
      | _, _ => .fail
    | _ => .fail) :=
  (ps_asg he (pg_sub ho hi set_list (fun v => by cases i <;> first | rfl | (cases hsl))) hl hw).imp fun D σ H ⟨ρ, m, h, F, r, s, q⟩ => by
    refine rdS_v r s q fun t m1 h1 H1 v p t1 r1 s1 rv a1 => ?_
    refine ⟨ρ, m1, h1, F, r1, s1, rdS1 r1 s1 a1 fun x m2 h2 H2 p2 t2 r2 s2 a2 w rw' => ?_⟩
    split at a2
    · rename_i ad
      obtain ⟨d, ed, rfl⟩ := rw'
      refine ⟨ρ, m2, h2, F, r2, s2, rdS1 r2 s2 a2 fun y m3 h3 H3 p3 t3 r3 s3 a3 z rz => ?_⟩
      split at a3
      · rename_i k ts hk
        split at a3
        · rename_i j hj
          cases rz
          obtain ⟨d', ed', xs, hx, rs⟩ := s3.obj ad _ hk
          rw [p3.get ed] at ed'; cases ed'
          have rv3 := Rp.mono (p2.trans p3) (t2.trans t3) _ _ rv
          obtain ⟨s4, t4⟩ := s3.put hk (p3.get ed) (rs.set rv3 j)
          exact ⟨d, xs, k, j, rfl, rfl, hx, by rw [← rs.length]; exact hj, AnsS.nx (r3.mono (Pre.refl _) t4) s4 (AnsS.later (Pre.refl _) t4 a3)⟩
        · exact False.elim a3
      · exact False.elim a3
    · exact False.elim a2
theorem ss_ite {tb : En → Hd → Res Bool} (hc : ST X W c tb) (ha : SSs X W p f) (hb : SSs X W q g) : SS X W (.If c p q pos) (fun ρ h => (tb ρ h).bindS ρ fun k h => if k then f ρ h else g ρ h) :=
  (ps_if hc ha hb).imp fun D σ H ⟨ρ, m, h, F, r, s, a⟩ => ⟨ρ, m, h, F, r, s, rdS1 r s a fun k m1 h1 H1 p t r1 s1 a1 => by
    cases k with
    | true => exact ⟨ρ, m1, h1, F, r1, s1, a1⟩
    | false => exact ⟨ρ, m1, h1, F, r1, s1, a1⟩⟩
theorem sss_nil : SSs X W [] (fun ρ h => .nx ρ h) := pss_nil.imp fun D σ H ⟨ρ, m, h, F, r, s, a⟩ => a.nx r s
theorem sss_cons (h1 : SS X W st f) (h2 : SSs X W sts g) : SSs X W (st :: sts) (fun ρ h => match f ρ h with
    | .nx ρ h => g ρ h
    | r => r) :=
  (pss_cons h1 h2).imp fun D σ H ⟨ρ, m, h, F, r, s, a⟩ => ⟨ρ, m, h, F, r, s, by
    have key : ∀ q : RS, AnsS X.K X.mg W D F m H (match q with | .nx ρ h => g ρ h | r => r) → AnsS X.K X.mg W { D with nx := rdS X.K X.mg W g D } F m H q := fun q a => by
      cases q with
      | nx ρ1 h1 => exact fun m' H' σ' p t r' s' => ⟨ρ1, m', h1, F, r', s', AnsS.later p t a⟩
      | bk ρ1 h1 => exact a
      | ct ρ1 h1 => exact a
      | rt t h1 => exact a
      | err c p ρ1 h1 => exact a
      | fail => exact a
    exact key _ a⟩
/-- what a loop's body leads to -/
theorem AnsS.body {m m2 : List Addr} {h : Hd} {H H2 F : Hp} {D : Ends} {r : RS} {k : En → Hd → RS} {N : L2.St → Hp → Prop}
    (a : AnsS X.K X.mg W D F m H (match r with
      | .nx ρ h => k ρ h
      | .ct ρ h => k ρ h
      | .bk ρ h => .nx ρ h
      | r => r)) (n : ∀ ρ h m' H' σ', Pre m m' → Tups H H' → RSl X.K X.mg m' H' ρ σ' → Sim X.K X.mg m' h H' F → AnsS X.K X.mg W D F m' H' (k ρ h) → N σ' H') :
    AnsS X.K X.mg W { D with nx := N, ct := N, bk := D.nx } F m H r := by
  cases r with
  | nx ρ1 h1 => exact fun m' H' σ' p t r s => n ρ1 h1 m' H' σ' p t r s (AnsS.later p t a)
  | ct ρ1 h1 => exact fun m' H' σ' p t r s => n ρ1 h1 m' H' σ' p t r s (AnsS.later p t a)
  | bk ρ1 h1 => exact a
  | rt t h1 => exact a
  | err c p ρ1 h1 => exact a
  | fail => exact a
theorem ss_while {tb : En → Hd → Res Bool} {Wn : Nat} (hp : PassesOwn (model X.prog X.w) X.A X.env X.xe) (hc : ST X W c tb) (hb : SSs X W p f) : SS X W (.While c p [] pos) (fun ρ h => whileN tb f Wn ρ h) :=
  (ps_while hp hc hb).imp fun D σ H ⟨ρ, m, h, F, r, s, a⟩ => by
    refine ⟨fun k σ' H' => ∃ ρ' m' h', RSl X.K X.mg m' H' ρ' σ' ∧ Sim X.K X.mg m' h' H' F ∧ AnsS X.K X.mg W D F m' H' (whileN tb f k ρ' h'), ⟨Wn, ρ, m, h, r, s, a⟩, ?_⟩
    rintro k σ1 H1 ⟨ρ1, m1, h1, r1, s1, a1⟩
    cases k with
    | zero => exact False.elim a1
    | succ k =>
      have a1 : AnsS X.K X.mg W D F m1 H1 ((tb ρ1 h1).bindS ρ1 fun b h => if b then match f ρ1 h with
        | .nx ρ h => whileN tb f k ρ h
        | .ct ρ h => whileN tb f k ρ h
        | .bk ρ h => .nx ρ h
        | r => r
        else .nx ρ1 h) := a1
      refine ⟨ρ1, m1, h1, F, r1, s1, rdS1 r1 s1 a1 fun b m2 h2 H2 p2 t2 r2 s2 a2 => ?_⟩
      cases b with
      | false =>
        simp only [Bool.false_eq_true, if_false] at a2 ⊢
        exact a2.nx r2 s2
      | true =>
        simp only [if_true] at a2 ⊢
        exact ⟨fun σ' H' => ∃ ρ' m' h', RSl X.K X.mg m' H' ρ' σ' ∧ Sim X.K X.mg m' h' H' F ∧ AnsS X.K X.mg W D F m' H' (whileN tb f k ρ' h'), fun σ' H' w => ⟨k, Nat.lt_succ_self k, w⟩,
          ρ1, m2, h2, F, r2, s2, AnsS.body (m2 := m2) (h := h2) (H2 := H2) a2 fun ρ' h' m' H' σ' p t r' s' a' => ⟨ρ', m', h', r', s', a'⟩⟩
theorem ss_for {g : Tg} {Wn : Nat} {fi : En → Hd → Res ItV} (hp : PassesOwn (model X.prog X.w) X.A X.env X.xe) (hc : X.calm = true) (hi : SI X W tg it fi) (hg : SG X tg g) (hb : SSs X W p f) (hs : notSet it = true) :
    SS X W (.For tg it p [] pos) (fun ρ h => (fi ρ h).bindS ρ fun v h => forN v (fun t ρ h => match bindT g t ρ with
    | some ρ' => f ρ' h
    | none => .fail) Wn 0 ρ h) :=
  (ps_for hp hc hi hg hb (folded_id hs)).imp fun D σ H ⟨ρ, m, h, F, r, s, a⟩ => by
    refine ⟨ρ, m, h, F, r, s, rdS1 r s a fun v m1 h1 H1 p1 t1 r1 s1 a1 J F1 ex sF io => ?_⟩
    refine ⟨fun i k σ' H' => ∃ ρ' m' h', Pre m1 m' ∧ Tups H1 H' ∧ RSl X.K X.mg m' H' ρ' σ' ∧ Sim X.K X.mg m' h' H' F1 ∧ AnsS X.K X.mg W D F1 m' H' (forN v (fun t ρ h => match bindT g t ρ with
      | some ρ' => f ρ' h
      | none => .fail) k i ρ' h'), ⟨Wn, ρ, m1, h1, Pre.refl _, Tups.refl _, r1, sF, a1.fr ex⟩, ?_⟩
    rintro i k σ2 H2 ⟨ρ2, m2, h2, p2, t2, r2, s2, a2⟩
    cases k with
    | zero => exact False.elim a2
    | succ k =>
      have a2 : AnsS X.K X.mg W D F1 m2 H2 (match v.at h2 i with
        | some none => .nx ρ2 h2
        | some (some t) => match (match bindT g t ρ2 with
          | some ρ' => f ρ' h2
          | none => .fail) with
          | .nx ρ h => forN v (fun t ρ h => match bindT g t ρ with | some ρ' => f ρ' h | none => .fail) k (i + 1) ρ h
          | .ct ρ h => forN v (fun t ρ h => match bindT g t ρ with | some ρ' => f ρ' h | none => .fail) k (i + 1) ρ h
          | .bk ρ h => .nx ρ h
          | r => r
        | none => .fail) := a2
      have io2 := io m2 h2 H2 p2 t2 s2 i
      cases e : v.at h2 i with
      | none => rw [e] at a2; exact False.elim a2
      | some ot =>
        rw [e] at a2
        cases ot with
        | none => exact .inl ⟨io2.1 e, AnsS.nx r2 s2 a2⟩
        | some t =>
          obtain ⟨go, hy⟩ := io2.2 t e
          refine .inr ⟨go, fun σ' H' => ∃ ρ' m' h', Pre m1 m' ∧ Tups H1 H' ∧ RSl X.K X.mg m' H' ρ' σ' ∧ Sim X.K X.mg m' h' H' F1 ∧ AnsS X.K X.mg W D F1 m' H' (forN v (fun t ρ h => match bindT g t ρ with
            | some ρ' => f ρ' h
            | none => .fail) k (i + 1) ρ' h'), fun σ' H' w => ⟨k, Nat.lt_succ_self k, w⟩, fun x H3 y => ?_⟩
          obtain ⟨ex3, rx⟩ := hy x H3 y
          cases eb : bindT g t ρ2 with
          | none =>
            have a2 : AnsS X.K X.mg W D F1 m2 H2 (match (match bindT g t ρ2 with
              | some ρ' => f ρ' h2
              | none => RS.fail) with
              | .nx ρ h => forN v (fun t ρ h => match bindT g t ρ with | some ρ' => f ρ' h | none => .fail) k (i + 1) ρ h
              | .ct ρ h => forN v (fun t ρ h => match bindT g t ρ with | some ρ' => f ρ' h | none => .fail) k (i + 1) ρ h
              | .bk ρ h => .nx ρ h
              | r => r) := a2
            rw [eb] at a2; exact False.elim a2
          | some ρ' =>
            have a2 : AnsS X.K X.mg W D F1 m2 H2 (match (match bindT g t ρ2 with
              | some ρ' => f ρ' h2
              | none => RS.fail) with
              | .nx ρ h => forN v (fun t ρ h => match bindT g t ρ with | some ρ' => f ρ' h | none => .fail) k (i + 1) ρ h
              | .ct ρ h => forN v (fun t ρ h => match bindT g t ρ with | some ρ' => f ρ' h | none => .fail) k (i + 1) ρ h
              | .bk ρ h => .nx ρ h
              | r => r) := a2
            rw [eb] at a2
            refine tg_ok g t x ρ2 ρ' σ2 eb (r2.mono (Pre.refl _) ex3.tups) rx fun σ3 r3 _ => ?_
            refine ⟨ρ', m2, h2, F1, r3, s2.ext ex3, AnsS.body (m2 := m2) (h := h2) (H2 := H3) (AnsS.later (Pre.refl _) ex3.tups a2) fun ρ4 h4 m4 H4 σ4 p4 t4 r4 s4 a4 => ?_⟩
            exact ⟨ρ4, m4, h4, p2.trans p4, (t2.trans ex3.tups).trans t4, r4, s4, a4⟩
end
end Pv
end

section
set_option Elab.async false
set_option linter.all false
set_option maxRecDepth 100000
set_option maxHeartbeats 4000000
namespace Pv
open PySem PySem.Spec PyProof.Rows L2

/-! ### from the text to the small language -/
/-- what is known of the globals: data, the defs' parameters' counts, free names (built-ins) -/
structure GG where
  glob : Str → Option T
  ar : Str → Option Nat
  free : Str → Bool
structure CC where
  N : List Str
  sc : Scope
  fn : Str → Bool
def CC.blk (C : CC) (scope : Scope) : CC := ⟨C.N, relS scope C.sc, fun x => scope.names.lookup x == some .cell⟩
def ixOf (x : Str) : List Str → Nat → Option Nat
  | [], _ => none
  | y :: ys, n => if y == x then some n else ixOf x ys (n + 1)
theorem ixOf_ok {x : Str} : ∀ {l : List Str} {n i : Nat}, ixOf x l n = some i → n ≤ i ∧ l[i - n]? = some x
  | [], _, _, h => by cases h
  | y :: ys, n, i, h => by
    unfold ixOf at h
    split at h
    · rename_i hy
      cases h
      have : y = x := by simpa using hy
      subst this
      simp
    · obtain ⟨h1, h2⟩ := ixOf_ok h
      refine ⟨by omega, ?_⟩
      have : i - n = (i - (n + 1)) + 1 := by omega
      rw [this]
      simpa using h2
def visB (sc : Scope) (x : Str) : Bool := match sc.names.lookup x with
  | some .local | some .cell | some .free => true
  | _ => false
def locB (sc : Scope) (x : Str) : Bool := match sc.names.lookup x with
  | some .local | some .cell => true
  | _ => false
def glB (sc : Scope) (x : Str) : Bool := match sc.names.lookup x with
  | some .globalImplicit => true
  | _ => false
def isLocB (sc : Scope) (x : Str) : Bool := match sc.names.lookup x with
  | some .local => true
  | _ => false
theorem visB_ok {sc : Scope} {x : Str} (h : visB sc x = true) : Vis sc x := by
  unfold visB at h
  split at h
  · rename_i e; exact .inl e
  · rename_i e; exact .inr (.inl e)
  · rename_i e; exact .inr (.inr e)
  · cases h
theorem locB_ok {sc : Scope} {x : Str} (h : locB sc x = true) : Loc sc x := by
  unfold locB at h
  split at h
  · rename_i e; exact .inl e
  · rename_i e; exact .inr e
  · cases h
theorem glB_ok {sc : Scope} {x : Str} (h : glB sc x = true) : sc.names.lookup x = some .globalImplicit := by
  unfold glB at h
  split at h
  · assumption
  · cases h
theorem isLocB_ok {sc : Scope} {x : Str} (h : isLocB sc x = true) : sc.names.lookup x = some .local := by
  unfold isLocB at h
  split at h
  · assumption
  · cases h
def dunder (x : Str) : Bool := x == ("__debug__" : Str) || x == ("__classdict__" : Str)
theorem dunder_ok {x : Str} (h : dunder x = false) : (x == ("__debug__" : Str)) = false ∧ (x == ("__classdict__" : Str)) = false := by
  unfold dunder at h
  simpa using h
def bopC : Operator → Option Bop
  | .Add => some .add | .Sub => some .sub | .Mult => some .mul | .FloorDiv => some .fdiv | .Mod => some .mod | .Pow => some .pow | _ => none
theorem bopC_ok {op : Operator} {o : Bop} (h : bopC op = some o) : op = bopO o := by cases op <;> cases h <;> rfl
def copC : CmpOp → Option Cop
  | .Eq => some .eq | .NotEq => some .ne | .Lt => some .lt | .LtE => some .le | .Gt => some .gt | .GtE => some .ge | .In => some .isin | .NotIn => some .notin | _ => none
theorem copC_ok {op : CmpOp} {o : Cop} (h : copC op = some o) : op = copO o := by cases op <;> cases h <;> rfl
def f1s : List F1 := [.len, .abs, .int, .tuple, .list, .all, .any, .sum, .sorted, .max, .min]
def f1C (x : Str) : Option F1 := f1s.find? fun f => f1N f == x
theorem f1C_ok {x : Str} {f : F1} (h : f1C x = some f) : f1N f = x := by
  have := List.find?_some h
  simpa using this
def f2s : List F2 := [.max, .min]
def f2C (x : Str) : Option F2 := f2s.find? fun f => f2N f == x
theorem f2C_ok {x : Str} {f : F2} (h : f2C x = some f) : f2N f = x := by
  have := List.find?_some h
  simpa using this
def mtC (x : Str) : Option Mt := [Mt.append, .extend, .pop].find? fun f => mtN f == x
theorem mtC_ok {x : Str} {f : Mt} (h : mtC x = some f) : mtN f = x := by
  have := List.find?_some h
  simpa using this
def tyC (G : GG) (C : CC) : Expr → Option String
  | .Name x _ => match tyNs.find? fun y => Str.ofString y == x with
    | some y => if glB C.sc x && G.free x then some y else none
    | none => none
  | _ => none
def tysC (G : GG) (C : CC) : List Expr → Option (List String)
  | [] => some []
  | e :: es => match tyC G C e, tysC G C es with
    | some y, some ys => some (y :: ys)
    | _, _ => none
/-- testable: no if-expression -/
def tstE : Expr → Bool
  | .IfExp .. => false
  | _ => true
def ownOf (N : List Str) : List (Str × NameKind) → List (Str × Nat)
  | [] => []
  | (x, k) :: r => if (k == .local || k == .cell) then match ixOf x N 0 with
    | some i => (x, i) :: ownOf N r
    | none => ownOf N r
    else ownOf N r
def isTup : Expr → Bool
  | .Tuple .. => true
  | _ => false
theorem isTup_ok {e : Expr} (h : isTup e = true) : ∃ es k p, e = .Tuple es k p := by
  cases e <;> first | exact ⟨_, _, _, rfl⟩ | cases h
def freeG (G : GG) (C : CC) (x : Str) : Bool := glB C.sc x && G.free x
mutual
def cTg (C : CC) : Nat → Expr → Option Tg
  | 0, _ => none
  | n + 1, e => match e with
    | .Name x _ => match ixOf x C.N 0 with
      | some i => if locB C.sc x && (C.fn x || isLocB C.sc x) then some (.nm i) else none
      | none => none
    | .Tuple es _ _ => (cTgs C n es).map .tp
    | _ => none
def cTgs (C : CC) : Nat → List Expr → Option Tgs
  | 0, _ => none
  | n + 1, es => match es with
    | [] => some .nil
    | e :: es => if notStar e then match cTg C n e, cTgs C n es with
      | some g, some gs => some (.cons g gs)
      | _, _ => none
      else none
end
def cName (G : GG) (C : CC) (x : Str) : Option E := if dunder x then none else
  if visB C.sc x then (ixOf x C.N 0).map .slot else if glB C.sc x && (G.glob x).isSome then some (.glob x) else none
mutual
def cE (G : GG) : Nat → CC → Expr → Option E
  | 0, _, _ => none
  | n + 1, C, e => match e with
    | .Name x _ => cName G C x
    | .Constant c _ _ => match c with
      | .none => some .non
      | .bool b => some (.bl b)
      | .int i => some (.int i)
      | .str x => some (.str x)
      | _ => none
    | .Tuple es _ _ => (cEs G n C es).map .tup
    | .List es _ => (cEs G n C es).map .lst
    | .BinOp a op b _ => match bopC op, cE G n C a, cE G n C b with
      | some o, some a', some b' => some (.bin o a' b')
      | _, _, _ => none
    | .Compare a ops bs _ => match ops, bs with
      | [op], [b] => match op, b with
        | .Is, .Constant .none _ _ => (cE G n C a).map .isN
        | .IsNot, .Constant .none _ _ => (cE G n C a).map .notN
        | _, _ => match copC op, cE G n C a, cE G n C b with
          | some o, some a', some b' => if behindInMarks op b then none else some (.cmp o a' b')
          | _, _, _ => none
      | [op, op2], [b, c] => match copC op, copC op2, cE G n C a, cE G n C b, cE G n C c with
        | some o, some o2, some a', some b', some c' => if behindInMarks op2 c then none else some (.chain o o2 a' b' c')
        | _, _, _, _, _ => none
      | _, _ => none
    | .BoolOp op es _ => cB G n C op es
    | .UnaryOp op a _ => match op with
      | .Not => if tstE a then (cE G n C a).map .not else none
      | .USub => (cE G n C a).map .neg
      | _ => none
    | .IfExp c a b _ => if tstE c then match cE G n C c, cE G n C a, cE G n C b with
      | some c', some a', some b' => some (.ite c' a' b')
      | _, _, _ => none
      else none
    | .Subscript a i _ => match i with
      | .Slice l u st _ => match st, l, u with
        | none, none, none => (cE G n C a).map .slAll
        | none, some l, none => match cE G n C a, cE G n C l with
          | some a', some l' => some (.slL a' l')
          | _, _ => none
        | none, none, some u => match cE G n C a, cE G n C u with
          | some a', some u' => some (.slU a' u')
          | _, _ => none
        | none, some l, some u => match cE G n C a, cE G n C l, cE G n C u with
          | some a', some l', some u' => some (.slLU a' l' u')
          | _, _, _ => none
        | _, _, _ => none
      | i => match cE G n C a, cE G n C i with
        | some a', some i' => some (.ix a' i')
        | _, _ => none
    | .ListComp elt gens scope _ => match gens with
      | [⟨tg, it, ifs, as⟩] => if as == 0 then cLc G n C elt tg it ifs scope else none
      | _ => none
    | .Call f args kws pos => if kws.isEmpty && notStars args then match f with
      | .Name x _ => if dunder x || !glB C.sc x then none else match G.ar x with
        | some _ => match args with
          | [] => none
          | args => (cEs G n C args).map (.call x)
        | none => if G.free x then cBl G n C x args else none
      | .Attribute o m apos => if notSuper o && (apos.endLine == pos.line) then match mtC m, args with
        | some .pop, [] => (cE G n C o).map (.meth0 .pop)
        | some q, [b] => match cE G n C o, cE G n C b with
          | some o', some b' => some (.meth1 q o' b')
          | _, _ => none
        | _, _ => none
        else none
      | _ => none
      else none
    | _ => none
def cEs (G : GG) : Nat → CC → List Expr → Option Es
  | 0, _, _ => none
  | n + 1, C, es => match es with
    | [] => some .nil
    | .Starred e _ :: es => match cE G n C e, cEs G n C es with
      | some e', some es' => some (.star e' es')
      | _, _ => none
    | e :: es => match cE G n C e, cEs G n C es with
      | some e', some es' => some (.cons e' es')
      | _, _ => none
/-- and, or -/
def cB (G : GG) : Nat → CC → PySem.BoolOp → List Expr → Option E
  | 0, _, _, _ => none
  | n + 1, C, op, es => match es with
    | [] => none
    | [a] => if tstE a then cE G n C a else none
    | a :: es => if tstE a then match cE G n C a, cB G n C op es with
      | some a', some b' => match op with
        | .And => some (.and a' b')
        | .Or => some (.or a' b')
      | _, _ => none
      else none
/-- built-ins -/
def cBl (G : GG) : Nat → CC → Str → List Expr → Option E
  | 0, _, _, _ => none
  | n + 1, C, x, args => if x == ("isinstance" : Str) then match args with
      | [a, t] => match t with
        | .Tuple ts _ _ => match tysC G C ts, cE G n C a with
          | some ys, some a' => if ys.length ≤ 100 then some (.isi a' ys) else none
          | _, _ => none
        | t => match tyC G C t, cE G n C a with
          | some y, some a' => some (.isi a' [y])
          | _, _ => none
      | _ => none
    else if x == ("list" : Str) then match args with
      | [.Call (.Name y _) as2 kws2 _] => if kws2.isEmpty && notStars as2 && freeG G C y then
          if y == ("range" : Str) then match as2 with
            | [a] => (cE G n C a).map .lsR1
            | [a, b] => match cE G n C a, cE G n C b with
              | some a', some b' => some (.lsR2 a' b')
              | _, _ => none
            | _ => none
          else if y == ("zip" : Str) then match as2 with
            | [a, b] => match cE G n C a, cE G n C b with
              | some a', some b' => some (.lsZ a' b')
              | _, _ => none
            | _ => none
          else cF1 G n C x args
        else cF1 G n C x args
      | _ => cF1 G n C x args
    else if x == ("sorted" : Str) then match args with
      | [.Call (.Name y _) as2 kws2 _] => if kws2.isEmpty && notStars as2 && freeG G C y && y == ("set" : Str) then match as2 with
          | [a] => (cE G n C a).map .srtSet
          | _ => none
        else cF1 G n C x args
      | _ => cF1 G n C x args
    else cF1 G n C x args
def cF1 (G : GG) : Nat → CC → Str → List Expr → Option E
  | 0, _, _, _ => none
  | n + 1, C, x, args => match args with
      | [a] => match f1C x, cE G n C a with
        | some f, some a' => some (.f1 f a')
        | _, _ => none
      | [a, b] => match f2C x, cE G n C a, cE G n C b with
        | some f, some a', some b' => some (.f2 f a' b')
        | _, _, _ => none
      | _ => none
/-- what a loop goes over -/
def cIt (G : GG) : Nat → CC → Expr → Expr → Option It
  | 0, _, _, _ => none
  | n + 1, C, tg, it => match it with
    | .Call (.Name x _) args kws _ => if kws.isEmpty && notStars args && freeG G C x then
        if x == ("range" : Str) then match args with
          | [a] => (cE G n C a).map .rng1
          | [a, b] => match cE G n C a, cE G n C b with
            | some a', some b' => some (.rng2 a' b')
            | _, _ => none
          | _ => none
        else if x == ("enumerate" : Str) && isTup tg then match args with
          | [a] => (cE G n C a).map .enum
          | _ => none
        else if x == ("zip" : Str) && isTup tg then match args with
          | [a, b] => match cE G n C a, cE G n C b with
            | some a', some b' => some (.zip a' b')
            | _, _ => none
          | _ => none
        else (cE G n C it).map .seq
      else (cE G n C it).map .seq
    | it => (cE G n C it).map .seq
def cLc (G : GG) : Nat → CC → Expr → Expr → Expr → List Expr → Scope → Option E
  | 0, _, _, _, _, _, _ => none
  | n + 1, C, elt, tg, it, ifs, scope =>
    if blkC C.N C.sc scope (ownOf C.N scope.names) && notSet it then
      match cIt G n C tg it, cTg (C.blk scope) n tg, cE G n (C.blk scope) elt, (match ifs with
        | [] => some Es.nil
        | [c] => if tstE c then (cE G n (C.blk scope) c).map fun c' => .cons c' .nil else none
        | _ => none) with
      | some it', some g, some elt', some cs => if g.in ((ownOf C.N scope.names).map (·.2)) then some (.lc elt' g it' cs ((ownOf C.N scope.names).map (·.2))) else none
      | _, _, _, _ => none
    else none
end
end Pv
end

section
set_option Elab.async false
set_option linter.all false
set_option maxRecDepth 100000
set_option maxHeartbeats 4000000
namespace Pv
open PySem PySem.Spec PyProof.Rows L2

/-! ### what the context of a compiled text is -/
structure Cok (G : GG) (P : Prg) (k : Nat) (C : CC) (X : Cx) (W : WX) : Prop where
  N : X.N = C.N
  nd : C.N.Nodup
  sc : X.env.scope = C.sc
  fn : ∀ x, X.fn x = C.fn x
  calm : X.calm = true
  room : Room k X.A
  tk : Takes X W
  glob : ∀ x t, P.glob x = some t → GlobOk X x t
  free : ∀ x, G.free x = true → X.mg x = none
  defs : ∀ f a, G.ar f = some a → DefOk X k f (P.call f)
section
variable {G : GG} {P : Prg} {k : Nat} {C : CC} {X : Cx} {W : WX}
theorem Cok.hu (c : Cok G P k C X W) : X.A.units + 65 < cLine := by have := c.room.un; omega
theorem Cok.gl (c : Cok G P k C X W) {x : Str} (h : glB C.sc x = true) : Gl X x := by
  show X.env.scope.names.lookup x = _
  rw [c.sc]; exact glB_ok h
theorem Cok.blk (c : Cok G P k C X W) {scope : Scope} (s : Shared) (H : Hp) (D : Addr) (cl : List (Str × Addr)) (fp : List Addr) : Cok G P k (C.blk scope) (blkX X s H scope D cl fp) WF where
  N := c.N
  nd := c.nd
  sc := by show relS scope X.env.scope = relS scope C.sc; rw [c.sc]
  fn := fun x => rfl
  calm := c.calm
  room := c.room
  tk := takes0
  glob := c.glob
  free := c.free
  defs := c.defs
theorem own_ok : ∀ (l : List (Str × NameKind)) (N : List Str), ∀ p ∈ ownOf N l, N[p.2]? = some p.1
  | [], _, p, h => absurd h (by simp [ownOf])
  | (x, k) :: r, N, p, h => by
    unfold ownOf at h
    split at h
    · split at h
      · rename_i i hi
        rcases List.mem_cons.mp h with e | h
        · subst e
          have := (ixOf_ok hi).2
          simpa using this
        · exact own_ok r N p h
      · exact own_ok r N p h
    · exact own_ok r N p h
theorem Cok.name (c : Cok G P k C X W) {x : Str} {e' : E} {pos : Pos} (h : cName G C x = some e') : SE X W (.Name x pos) (evE P e') := by
  unfold cName at h
  split at h
  · cases h
  · rename_i hd
    obtain ⟨d1, d2⟩ := dunder_ok (by simpa using hd)
    split at h
    · rename_i hv
      cases hi : ixOf x C.N 0 with
      | none => rw [hi] at h; cases h
      | some i =>
        rw [hi] at h; cases h
        have := (ixOf_ok hi).2
        exact s_slot (by rw [c.N]; simpa using this) (by rw [c.sc]; exact visB_ok hv) d1 d2
    · split at h
      · rename_i hg
        cases h
        rw [Bool.and_eq_true] at hg
        exact s_glob (c.gl hg.1) d1 (c.glob x)
      · cases h
theorem assign_each : ∀ {es : List Expr} {env : Env}, notStars es = true → (assignEach es env).length = es.length ∧ (assignEach es env).findIdx? (·.1) = none ∧ (assignEach es env).map (·.2) = es.map fun e => assign e env
  | [], _, _ => ⟨rfl, rfl, rfl⟩
  | e :: es, env, h => by
    have h : (notStar e && notStars es) = true := h
    rw [Bool.and_eq_true] at h
    obtain ⟨h1, h2, h3⟩ := assign_each (env := env) h.2
    have : assignEach (e :: es) env = (false, assign e env) :: assignEach es env := by
      cases e <;> first | rfl | exact absurd h.1 (by simp [notStar])
    rw [this]
    refine ⟨by simp [h1], ?_, by simp [h3]⟩
    rw [List.findIdx?_cons]
    simp [h2]
theorem cTgs_len : ∀ (n : Nat) (es : List Expr) (gs : Tgs), cTgs C n es = some gs → gs.len = es.length ∧ notStars es = true
  | 0, _, _, h => by simp [cTgs] at h
  | n + 1, [], gs, h => by
    simp only [cTgs] at h
    cases h
    exact ⟨rfl, rfl⟩
  | n + 1, e :: es, gs, h => by
    simp only [cTgs] at h
    split at h
    · rename_i hs
      split at h
      · rename_i g gs' h1 h2
        cases h
        obtain ⟨a, b⟩ := cTgs_len n es gs' h2
        exact ⟨by show gs'.len + 1 = _; rw [a]; rfl, by show (notStar e && notStars es) = true; rw [hs, b] <;> rfl⟩
      · cases h
    · cases h
theorem Cok.tgs (c : Cok G P k C X W) : ∀ n : Nat, (∀ (e : Expr) (g : Tg), cTg C n e = some g → SG X e g) ∧ (∀ (es : List Expr) (gs : Tgs), cTgs C n es = some gs → PGs X es (tgsOf X.K gs))
  | 0 => ⟨fun e g h => by simp [cTg] at h, fun es gs h => by simp [cTgs] at h⟩
  | n + 1 => by
    obtain ⟨ih1, ih2⟩ := c.tgs n
    refine ⟨fun e g h => ?_, fun es gs h => ?_⟩
    · simp only [cTg] at h
      split at h
      · rename_i x p
        split at h
        · rename_i i hi
          split at h
          · rename_i hl
            cases h
            rw [Bool.and_eq_true, Bool.or_eq_true] at hl
            have := (ixOf_ok hi).2
            refine pg_name (by rw [c.N]; exact c.nd) (by rw [c.N]; simpa using this) (by rw [c.sc]; exact locB_ok hl.1) ?_
            rcases hl.2 with z | z
            · exact .inl (by rw [c.fn]; exact z)
            · exact .inr (by rw [c.sc]; exact isLocB_ok z)
          · cases h
        · cases h
      · rename_i es kk p
        cases h2 : cTgs C n es with
        | none => rw [h2] at h; cases h
        | some gs =>
          rw [h2] at h; cases h
          obtain ⟨hl, hs⟩ := cTgs_len n es gs h2
          obtain ⟨a1, a2, a3⟩ := assign_each (env := X.env) hs
          show PG X _ (gTup X.K gs.len (tgsOf X.K gs))
          exact pg_tup c.calm (ih2 es gs h2) (by rw [a1, hl]) a2
      · cases h
    · simp only [cTgs] at h
      split at h
      · cases h; exact pgs_nil
      · rename_i e es
        split at h
        · rename_i hs
          split at h
          · rename_i g gs' h1 h2
            cases h
            refine pgs_cons (ih1 e g h1) (ih2 es gs' h2) ?_
            cases e <;> first | rfl | exact absurd hs (by simp [notStar])
          · cases h
        · cases h
theorem evB_not (a : E) : evB P (.not a) = fun ρ h => (evB P a ρ h).bind fun b h => .ok (!b) h := by
  funext ρ h
  show ((evE P a ρ h).bind fun x h => Res.of ((truth h x).map fun b => VV.v (.bl (!b))) h).bind (fun x h => Res.of (truth h x) h) = ((evE P a ρ h).bind fun x h => Res.of (truth h x) h).bind fun b h => Res.ok (!b) h
  rw [Res.bind_assoc, Res.bind_assoc]
  congr 1
  funext x h
  cases truth h x <;> rfl
theorem evB_and (a b : E) : evB P (.and a b) = fun ρ h => (evB P a ρ h).bind fun k h => if k then evB P b ρ h else .ok false h := by
  funext ρ h
  show ((evE P a ρ h).bind fun x h => match truth h x with | some true => evE P b ρ h | some false => Res.ok x h | none => Res.fail).bind (fun x h => Res.of (truth h x) h) = ((evE P a ρ h).bind fun x h => Res.of (truth h x) h).bind fun k h => if k then evB P b ρ h else Res.ok false h
  rw [Res.bind_assoc, Res.bind_assoc]
  congr 1
  funext x h
  cases e : truth h x with
  | none => rfl
  | some k =>
    cases k with
    | true => rfl
    | false =>
      show Res.of (truth h x) h = Res.ok false h
      rw [e] <;> rfl
theorem evB_or (a b : E) : evB P (.or a b) = fun ρ h => (evB P a ρ h).bind fun k h => if k then .ok true h else evB P b ρ h := by
  funext ρ h
  show ((evE P a ρ h).bind fun x h => match truth h x with | some true => Res.ok x h | some false => evE P b ρ h | none => Res.fail).bind (fun x h => Res.of (truth h x) h) = ((evE P a ρ h).bind fun x h => Res.of (truth h x) h).bind fun k h => if k then Res.ok true h else evB P b ρ h
  rw [Res.bind_assoc, Res.bind_assoc]
  congr 1
  funext x h
  cases e : truth h x with
  | none => rfl
  | some k =>
    cases k with
    | false => rfl
    | true =>
      show Res.of (truth h x) h = Res.ok true h
      rw [e] <;> rfl
theorem evC_one (a : E) : evC P (.cons a .nil) = evB P a := by
  funext ρ h
  show ((evE P a ρ h).bind fun x h => match truth h x with | some true => Res.ok true h | some false => Res.ok false h | none => Res.fail) = (evE P a ρ h).bind fun x h => Res.of (truth h x) h
  congr 1
  funext x h
  cases e : truth h x with
  | none => rfl
  | some k => cases k <;> rfl
end
end Pv
end

section
set_option Elab.async false
set_option linter.all false
set_option maxRecDepth 100000
set_option maxHeartbeats 8000000
namespace Pv
open PySem PySem.Spec PyProof.Rows L2

structure LcP (P : Prg) (X : Cx) (W : WX) (N : List Str) (elt tg it : Expr) (ifs : List Expr) (scope : Scope) (e' : E) (own : List (Str × Nat)) (it' : It) (g : Tg) (cs : Es) (elt' : E) : Prop where
  eq : e' = .lc elt' g it' cs (own.map (·.2))
  walk : SI X W tg it (evI P it')
  blk : BlkOk X.N X.env.scope scope own
  tg : ∀ s H D cl fp, SG (blkX X s H scope D cl fp) tg g
  ts : ∀ s H D cl fp, PTs (blkX X s H scope D cl fp) ifs (rdB X.K X.mg WF (evC P cs))
  elt : ∀ s H D cl fp, SE (blkX X s H scope D cl fp) WF elt (evE P elt')
  inn : g.in (own.map (·.2)) = true
  ns : notSet it = true
structure Ind (G : GG) (P : Prg) (n : Nat) : Prop where
  e : ∀ {k C X W}, Cok G P k C X W → ∀ e e', cE G n C e = some e' → SE X W e (evE P e') ∧ (tstE e = true → ST X W e (evB P e'))
  es : ∀ {k C X W}, Cok G P k C X W → ∀ es es', cEs G n C es = some es' → SA X W es (evEs P es')
  b : ∀ {k C X W}, Cok G P k C X W → ∀ op es e' pos, cB G n C op es = some e' → SE X W (.BoolOp op es pos) (evE P e') ∧ SW X W (.BoolOp op es pos) (evB P e')
  bl : ∀ {k C X W}, Cok G P k C X W → ∀ x args e' p pos, Gl X x → G.free x = true → notStars args = true → cBl G n C x args = some e' → SE X W (.Call (.Name x p) args [] pos) (evE P e')
  f1 : ∀ {k C X W}, Cok G P k C X W → ∀ x args e' p pos, Gl X x → G.free x = true → notStars args = true → cF1 G n C x args = some e' → SE X W (.Call (.Name x p) args [] pos) (evE P e')
  it : ∀ {k C X W}, Cok G P k C X W → ∀ tg it i', cIt G n C tg it = some i' → SI X W tg it (evI P i')
  lc : ∀ {k C X W}, Cok G P k C X W → ∀ elt tg it ifs scope e', cLc G n C elt tg it ifs scope = some e' → ∃ own it' g cs elt', LcP P X W C.N elt tg it ifs scope e' own it' g cs elt'
section
variable {G : GG} {P : Prg} {k n : Nat} {C : CC} {X : Cx} {W : WX}
theorem LcP.se (c : Cok G P k C X W) {elt tg it : Expr} {ifs : List Expr} {scope : Scope} {e' : E} {own : List (Str × Nat)} {it' : It} {g : Tg} {cs : Es} {elt' : E} {pos : Pos} (q : LcP P X W C.N elt tg it ifs scope e' own it' g cs elt') : SE X W (.ListComp elt [⟨tg, it, ifs, 0⟩] scope pos) (evE P e') := by
  rw [q.eq]
  exact s_lc c.calm (by rw [c.N]; exact c.nd) q.walk q.blk q.tg q.ts q.elt q.inn q.ns
/-- plain tests -/
theorem t_of {e : Expr} {e' : E} (h : plainTest e = true) (s : SE X W e (evE P e')) : ST X W e (evB P e') := t_plain h s
theorem tyC_ok (c : Cok G P k C X W) {t : Expr} {y : String} (h : tyC G C t = some y) : ∃ p, t = .Name (Str.ofString y) p ∧ y ∈ tyNs ∧ Gl X (Str.ofString y) ∧ X.mg (Str.ofString y) = none := by
  unfold tyC at h
  split at h
  · rename_i x p
    split at h
    · rename_i z hz
      split at h
      · rename_i hg
        obtain rfl : z = y := Option.some.inj h
        rw [Bool.and_eq_true] at hg
        have e1 := List.find?_some hz
        have e2 : Str.ofString z = x := by simpa using e1
        subst e2
        exact ⟨p, rfl, List.mem_of_find?_eq_some hz, c.gl hg.1, c.free _ hg.2⟩
      · cases h
    · cases h
  · cases h
theorem tysC_ok (c : Cok G P k C X W) : ∀ {ts : List Expr} {ys : List String}, tysC G C ts = some ys → tyTup X ys ts
  | [], ys, h => by cases h; rfl
  | t :: ts, ys, h => by
    have h : (match tyC G C t, tysC G C ts with | some y, some ys => some (y :: ys) | _, _ => none) = some ys := h
    split at h
    · rename_i y ys' h1 h2
      cases h
      obtain ⟨p, e, hy, hg, hm⟩ := tyC_ok c h1
      exact ⟨p, ts, by rw [e], hy, hg, hm, tysC_ok c h2⟩
    · cases h
theorem ns1 {a : Expr} (h : notStars [a] = true) : notStar a = true := by
  have h : (notStar a && true) = true := h
  simpa using h
theorem ns2 {a b : Expr} (h : notStars [a, b] = true) : notStar a = true ∧ notStar b = true := by
  have h : (notStar a && (notStar b && true)) = true := h
  simpa using h
theorem ind0 : Ind G P 0 where
  e := fun _ _ _ h => by simp [cE] at h
  es := fun _ _ _ h => by simp [cEs] at h
  b := fun _ _ _ _ _ h => by simp [cB] at h
  bl := fun _ _ _ _ _ _ _ _ _ h => by simp [cBl] at h
  f1 := fun _ _ _ _ _ _ _ _ _ h => by simp [cF1] at h
  it := fun _ _ _ _ h => by simp [cIt] at h
  lc := fun _ _ _ _ _ _ _ h => by simp [cLc] at h
theorem ind_es (I : Ind G P n) (c : Cok G P k C X W) (es : List Expr) (es' : Es) (h : cEs G (n + 1) C es = some es') : SA X W es (evEs P es') := by
  simp only [cEs] at h
  split at h
  · cases h; exact sa_nil
  · split at h
    · rename_i h1 h2
      cases h
      exact sa_star (I.e c _ _ h1).1 (I.es c _ _ h2)
    · cases h
  · rename_i e es hn
    split at h
    · rename_i h1 h2
      cases h
      refine sa_cons ?_ (I.e c _ _ h1).1 (I.es c _ _ h2)
      cases e <;> first | rfl | exact absurd rfl (hn _ _)
    · cases h
theorem ind_b (I : Ind G P n) (c : Cok G P k C X W) (op : PySem.BoolOp) (es : List Expr) (e' : E) (pos : Pos) (h : cB G (n + 1) C op es = some e') : SE X W (.BoolOp op es pos) (evE P e') ∧ SW X W (.BoolOp op es pos) (evB P e') := by
  simp only [cB] at h
  split at h
  · cases h
  · split at h
    · rename_i a ht
      obtain ⟨h1, h2⟩ := I.e c _ _ h
      refine ⟨s_one h1, ?_⟩
      cases op with
      | And => exact w_and1 (h2 ht)
      | Or => exact w_or1 (h2 ht)
    · cases h
  · rename_i a es hne
    split at h
    · rename_i ht
      split at h
      · rename_i a' b' ha hb
        obtain ⟨h1, h2⟩ := I.e c _ _ ha
        obtain ⟨h3, h4⟩ := I.b c op es b' pos hb
        cases es with
        | nil => exact absurd rfl hne
        | cons b rest =>
          cases op with
          | And =>
            cases h
            refine ⟨s_and h1 h3, ?_⟩
            rw [evB_and]
            exact w_and (h2 ht) h4
          | Or =>
            cases h
            refine ⟨s_or h1 h3, ?_⟩
            rw [evB_or]
            exact w_or (h2 ht) h4
      · cases h
    · cases h
theorem ind_f1 (I : Ind G P n) (c : Cok G P k C X W) (x : Str) (args : List Expr) (e' : E) (p pos : Pos) (hg : Gl X x) (hf : G.free x = true) (hs : notStars args = true) (h : cF1 G (n + 1) C x args = some e') : SE X W (.Call (.Name x p) args [] pos) (evE P e') := by
  simp only [cF1] at h
  split at h
  · split at h
    · rename_i h1 h2
      cases h
      have e := f1C_ok h1
      subst e
      exact s_f1 c.calm _ hg (c.free _ hf) (ns1 hs) (I.e c _ _ h2).1
    · cases h
  · split at h
    · rename_i h1 h2 h3
      cases h
      have e := f2C_ok h1
      subst e
      exact s_f2 c.calm _ hg (c.free _ hf) (ns2 hs).1 (ns2 hs).2 (I.e c _ _ h2).1 (I.e c _ _ h3).1
    · cases h
  · cases h
theorem ind_bl (I : Ind G P n) (c : Cok G P k C X W) (x : Str) (args : List Expr) (e' : E) (p pos : Pos) (hg : Gl X x) (hf : G.free x = true) (hs : notStars args = true) (h : cBl G (n + 1) C x args = some e') : SE X W (.Call (.Name x p) args [] pos) (evE P e') := by
  have plain : cF1 G n C x args = some e' → SE X W (.Call (.Name x p) args [] pos) (evE P e') := I.f1 c x args e' p pos hg hf hs
  simp only [cBl] at h
  split at h
  · rename_i hx
    have hx : x = "isinstance" := by simpa using hx
    subst hx
    split at h
    · rename_i a t
      split at h
      · split at h
        · rename_i h1 h2
          split at h
          · rename_i hl
            cases h
            exact s_isiT hl (tysC_ok c h1) hg (c.free _ hf) (ns2 hs).1 (I.e c _ _ h2).1
          · cases h
        · cases h
      · split at h
        · rename_i h1 h2
          cases h
          obtain ⟨q, rfl, hy, hg2, hm2⟩ := tyC_ok c h1
          exact s_isi1 hy hg2 hm2 hg (c.free _ hf) (ns2 hs).1 (I.e c _ _ h2).1
        · cases h
    · cases h
  · split at h
    · rename_i hx
      have hx : x = "list" := by simpa using hx
      subst hx
      split at h
      · rename_i y q as2 kws2 q2
        split at h
        · rename_i hy
          simp only [Bool.and_eq_true] at hy
          obtain ⟨⟨hk, hs2⟩, hfr⟩ := hy
          have hk : kws2 = [] := by simpa using hk
          subst hk
          unfold freeG at hfr
          rw [Bool.and_eq_true] at hfr
          split at h
          · rename_i hr
            have hr : y = "range" := by simpa using hr
            subst hr
            split at h
            · rename_i a
              cases h2 : cE G n C a with
              | none => rw [h2] at h; cases h
              | some a' =>
                rw [h2] at h; cases h
                exact s_lsR1 c.calm (c.gl hfr.1) (c.free _ hfr.2) hg (c.free _ hf) (ns1 hs2) (I.e c _ _ h2).1
            · split at h
              · rename_i h1 h2
                cases h
                exact s_lsR2 c.calm (c.gl hfr.1) (c.free _ hfr.2) hg (c.free _ hf) (ns2 hs2).1 (ns2 hs2).2 (I.e c _ _ h1).1 (I.e c _ _ h2).1
              · cases h
            · cases h
          · split at h
            · rename_i hr
              have hr : y = "zip" := by simpa using hr
              subst hr
              split at h
              · split at h
                · rename_i h1 h2
                  cases h
                  exact s_lsZ c.calm (c.gl hfr.1) (c.free _ hfr.2) hg (c.free _ hf) (ns2 hs2).1 (ns2 hs2).2 (I.e c _ _ h1).1 (I.e c _ _ h2).1
                · cases h
              · cases h
            · exact plain h
        · exact plain h
      · exact plain h
    · split at h
      · rename_i hx
        have hx : x = "sorted" := by simpa using hx
        subst hx
        split at h
        · rename_i y q as2 kws2 q2
          split at h
          · rename_i hy
            simp only [Bool.and_eq_true] at hy
            obtain ⟨⟨⟨hk, hs2⟩, hfr⟩, hyn⟩ := hy
            have hk : kws2 = [] := by simpa using hk
            subst hk
            have hyn : y = "set" := by simpa using hyn
            subst hyn
            unfold freeG at hfr
            rw [Bool.and_eq_true] at hfr
            split at h
            · rename_i a
              cases h2 : cE G n C a with
              | none => rw [h2] at h; cases h
              | some a' =>
                rw [h2] at h; cases h
                exact s_srtSet c.calm (c.gl hfr.1) (c.free _ hfr.2) hg (c.free _ hf) (ns1 hs2) (I.e c _ _ h2).1
            · cases h
          · exact plain h
        · exact plain h
      · exact plain h
theorem ind_it (I : Ind G P n) (c : Cok G P k C X W) (tg it : Expr) (i' : It) (h : cIt G (n + 1) C tg it = some i') : SI X W tg it (evI P i') := by
  have seq : (cE G n C it).map It.seq = some i' → SI X W tg it (evI P i') := fun h => by
    cases h2 : cE G n C it with
    | none => rw [h2] at h; cases h
    | some a' => rw [h2] at h; cases h; exact i_seq (I.e c _ _ h2).1
  simp only [cIt] at h
  split at h
  · rename_i x p args kws pos
    split at h
    · rename_i hy
      simp only [Bool.and_eq_true] at hy
      obtain ⟨⟨hk, hs⟩, hfr⟩ := hy
      have hk : kws = [] := by simpa using hk
      subst hk
      unfold freeG at hfr
      rw [Bool.and_eq_true] at hfr
      have hg := c.gl hfr.1
      have hm := c.free _ hfr.2
      split at h
      · rename_i hr
        have hr : x = "range" := by simpa using hr
        subst hr
        split at h
        · rename_i a
          cases h2 : cE G n C a with
          | none => rw [h2] at h; cases h
          | some a' =>
            rw [h2] at h; cases h
            exact i_rng1 hg hm (ns1 hs) (I.e c _ _ h2).1
        · split at h
          · rename_i h1 h2
            cases h
            exact i_rng2 hg hm (ns2 hs).1 (ns2 hs).2 (I.e c _ _ h1).1 (I.e c _ _ h2).1
          · cases h
        · cases h
      · split at h
        · rename_i hr
          rw [Bool.and_eq_true] at hr
          obtain ⟨hr, ht⟩ := hr
          have hr : x = "enumerate" := by simpa using hr
          subst hr
          obtain ⟨es0, k0, p0, rfl⟩ := isTup_ok ht
          split at h
          · rename_i a
            cases h2 : cE G n C a with
            | none => rw [h2] at h; cases h
            | some a' =>
              rw [h2] at h; cases h
              exact i_enum hg hm (ns1 hs) (I.e c _ _ h2).1
          · cases h
        · split at h
          · rename_i hr
            rw [Bool.and_eq_true] at hr
            obtain ⟨hr, ht⟩ := hr
            have hr : x = "zip" := by simpa using hr
            subst hr
            obtain ⟨es0, k0, p0, rfl⟩ := isTup_ok ht
            split at h
            · split at h
              · rename_i h1 h2
                cases h
                exact i_zip hg hm (ns2 hs).1 (ns2 hs).2 (I.e c _ _ h1).1 (I.e c _ _ h2).1
              · cases h
            · cases h
          · exact seq h
    · exact seq h
  · exact seq h
theorem ind_lc (I : Ind G P n) (c : Cok G P k C X W) (elt tg it : Expr) (ifs : List Expr) (scope : Scope) (e' : E) (h : cLc G (n + 1) C elt tg it ifs scope = some e') : ∃ own it' g cs elt', LcP P X W C.N elt tg it ifs scope e' own it' g cs elt' := by
  simp only [cLc] at h
  split at h
  · rename_i hb
    rw [Bool.and_eq_true] at hb
    split at h
    · rename_i it' g elt' cs h1 h2 h3 h4
      split at h
      · rename_i hin
        cases h
        refine ⟨ownOf C.N scope.names, it', g, cs, elt', rfl, I.it c _ _ _ h1, by rw [c.N, c.sc]; exact blkOk_by hb.1, fun s H D cl fp => ?_, fun s H D cl fp => ?_, fun s H D cl fp => ?_, hin, hb.2⟩
        · exact ((c.blk s H D cl fp).tgs n).1 _ _ h2
        · split at h4
          · cases h4; exact pts_none (X := blkX X s H scope D cl fp)
          · rename_i q
            split at h4
            · rename_i ht
              cases h5 : cE G n (C.blk scope) q with
              | none => rw [h5] at h4; cases h4
              | some q' =>
                rw [h5] at h4; cases h4
                rw [evC_one]
                exact pts_test ((I.e (c.blk s H D cl fp) _ _ h5).2 ht)
            · cases h4
          · cases h4
        · exact (I.e (c.blk s H D cl fp) _ _ h3).1
      · cases h
    · cases h
  · cases h
end
end Pv
end

section
set_option Elab.async false
set_option linter.all false
set_option maxRecDepth 100000
set_option maxHeartbeats 8000000
namespace Pv
open PySem PySem.Spec PyProof.Rows L2
section
variable {G : GG} {P : Prg} {k n : Nat} {C : CC} {X : Cx} {W : WX}
theorem vals_bl {f : En → Hd → Res VV} {g : VV → Hd → Res Bool} (ρ : En) (h : Hd) (x : VV) (h' : Hd) (e : ((f ρ h).bind fun x h => (g x h).bind fun b h => .ok (VV.v (.bl b)) h) = .ok x h') : ∃ b, x = .v (.bl b) := by
  cases e1 : f ρ h with
  | fail => rw [e1] at e; cases e
  | err c q h2 => rw [e1] at e; cases e
  | ok y h2 =>
    rw [e1] at e
    have e : (g y h2).bind (fun b h => Res.ok (VV.v (.bl b)) h) = .ok x h' := e
    cases e2 : g y h2 with
    | fail => rw [e2] at e; cases e
    | err c q h3 => rw [e2] at e; cases e
    | ok b h3 => rw [e2] at e; cases e; exact ⟨b, rfl⟩
theorem t_isN {a : Expr} {fa : En → Hd → Res VV} {pos p : Pos} {j : Nat} (ha : SE X W a fa) : ST X W (.Compare a [.Is] [.Constant .none j p] pos) (tstV fun ρ h => (fa ρ h).bind fun x h => .ok (.v (.bl (isNon x))) h) :=
  t_bl (pt_cmp (pc_isN ha)) (fun σ H Q ⟨ρ, m, h, F, r, s, a⟩ => rd1 r s a fun x m1 h1 H1 v p1 r1 s1 rv a1 => by
    rw [isNon_ok rv]; exact a1.ok s1 _ rfl) fun ρ h x h' e => by
    cases e1 : fa ρ h with
    | fail => rw [e1] at e; cases e
    | err c q h2 => rw [e1] at e; cases e
    | ok y h2 => rw [e1] at e; cases e; exact ⟨_, rfl⟩
theorem t_notN {a : Expr} {fa : En → Hd → Res VV} {pos p : Pos} {j : Nat} (ha : SE X W a fa) : ST X W (.Compare a [.IsNot] [.Constant .none j p] pos) (tstV fun ρ h => (fa ρ h).bind fun x h => .ok (.v (.bl (!isNon x))) h) :=
  t_bl (pt_cmp (pc_notN ha)) (fun σ H Q ⟨ρ, m, h, F, r, s, a⟩ => rd1 r s a fun x m1 h1 H1 v p1 r1 s1 rv a1 => by
    rw [isNon_ok rv]; exact a1.ok s1 _ rfl) fun ρ h x h' e => by
    cases e1 : fa ρ h with
    | fail => rw [e1] at e; cases e
    | err c q h2 => rw [e1] at e; cases e
    | ok y h2 => rw [e1] at e; cases e; exact ⟨_, rfl⟩
theorem evE_ite (c a b : E) : evE P (.ite c a b) = fun ρ h => (evB P c ρ h).bind fun k h => if k then evE P a ρ h else evE P b ρ h := by
  funext ρ h
  show ((evE P c ρ h).bind fun x h => match truth h x with | some true => evE P a ρ h | some false => evE P b ρ h | none => Res.fail) = ((evE P c ρ h).bind fun x h => Res.of (truth h x) h).bind fun k h => if k then evE P a ρ h else evE P b ρ h
  rw [Res.bind_assoc]
  congr 1
  funext x h
  cases truth h x with
  | none => rfl
  | some k => cases k <;> rfl
/-- both at once for a plain expression -/
theorem both {e : Expr} {e' : E} (hp : plainTest e = true) (s : SE X W e (evE P e')) : SE X W e (evE P e') ∧ (tstE e = true → ST X W e (evB P e')) := ⟨s, fun _ => t_of hp s⟩
theorem ind_cmp (I : Ind G P n) (c : Cok G P k C X W) (a : Expr) (ops : List CmpOp) (bs : List Expr) (pos : Pos) (e' : E) (h : cE G (n + 1) C (.Compare a ops bs pos) = some e') : SE X W (.Compare a ops bs pos) (evE P e') ∧ (tstE (.Compare a ops bs pos) = true → ST X W (.Compare a ops bs pos) (evB P e')) := by
  simp only [cE] at h
  split at h
  · rename_i op b
    split at h
    · cases h2 : cE G n C a with
      | none => rw [h2] at h; cases h
      | some a' => rw [h2] at h; cases h; exact ⟨s_isN (I.e c _ _ h2).1, fun _ => t_isN (I.e c _ _ h2).1⟩
    · cases h2 : cE G n C a with
      | none => rw [h2] at h; cases h
      | some a' => rw [h2] at h; cases h; exact ⟨s_notN (I.e c _ _ h2).1, fun _ => t_notN (I.e c _ _ h2).1⟩
    · split at h
      · rename_i o a' b' h1 h2 h3
        split at h
        · cases h
        · rename_i hb
          cases h
          have := copC_ok h1
          subst this
          have hb : behindInMarks (copO o) b = false := by simpa using hb
          exact ⟨s_cmp c.hu o (I.e c _ _ h2).1 (I.e c _ _ h3).1 hb, fun _ => t_cmp c.hu o (I.e c _ _ h2).1 (I.e c _ _ h3).1 hb⟩
      · cases h
  · rename_i op op2 b d
    split at h
    · rename_i o o2 a' b' d' h1 h2 h3 h4 h5
      split at h
      · cases h
      · rename_i hb
        cases h
        have e1 := copC_ok h1
        subst e1
        have e2 := copC_ok h2
        subst e2
        have hb : behindInMarks (copO o2) d = false := by simpa using hb
        exact ⟨s_chain c.hu o o2 (I.e c _ _ h3).1 (I.e c _ _ h4).1 (I.e c _ _ h5).1 hb, fun _ => t_chain c.hu o o2 (I.e c _ _ h3).1 (I.e c _ _ h4).1 (I.e c _ _ h5).1 hb⟩
    · cases h
  · cases h
theorem ind_sub (I : Ind G P n) (c : Cok G P k C X W) (a i : Expr) (pos : Pos) (e' : E) (h : cE G (n + 1) C (.Subscript a i pos) = some e') : SE X W (.Subscript a i pos) (evE P e') := by
  simp only [cE] at h
  split at h
  · rename_i l u st p
    split at h
    · cases h2 : cE G n C a with
      | none => rw [h2] at h; cases h
      | some a' => rw [h2] at h; cases h; exact s_slAll (I.e c _ _ h2).1
    · split at h
      · rename_i h1 h2; cases h; exact s_slL (I.e c _ _ h1).1 (I.e c _ _ h2).1
      · cases h
    · split at h
      · rename_i h1 h2; cases h; exact s_slU (I.e c _ _ h1).1 (I.e c _ _ h2).1
      · cases h
    · split at h
      · rename_i h1 h2 h3; cases h; exact s_slLU (I.e c _ _ h1).1 (I.e c _ _ h2).1 (I.e c _ _ h3).1
      · cases h
    · cases h
  · rename_i hn
    split at h
    · rename_i h1 h2
      cases h
      refine s_ix ?_ (I.e c _ _ h1).1 (I.e c _ _ h2).1
      cases i <;> first | rfl | exact absurd rfl (hn _ _ _ _)
    · cases h
theorem ind_call (I : Ind G P n) (c : Cok G P k C X W) (f : Expr) (args : List Expr) (kws : List Keyword) (pos : Pos) (e' : E) (h : cE G (n + 1) C (.Call f args kws pos) = some e') : SE X W (.Call f args kws pos) (evE P e') := by
  simp only [cE] at h
  split at h
  · rename_i hk
    rw [Bool.and_eq_true] at hk
    obtain ⟨hk, hs⟩ := hk
    have hk : kws = [] := by simpa using hk
    subst hk
    split at h
    · rename_i x p
      split at h
      · cases h
      · rename_i hd
        simp only [Bool.or_eq_true, not_or, Bool.not_eq_true, Bool.not_eq_false'] at hd
        obtain ⟨hd, hg⟩ := hd
        obtain ⟨d1, d2⟩ := dunder_ok hd
        have hgl := c.gl (by simpa using hg : glB C.sc x = true)
        split at h
        · rename_i ar har
          split at h
          · cases h
          · rename_i hne
            cases h2 : cEs G n C args with
            | none => rw [h2] at h; cases h
            | some es' =>
              rw [h2] at h; cases h
              cases args with
              | nil => exact absurd rfl hne
              | cons b rest => exact s_call c.room c.tk (c.defs x ar har) hgl d1 hs (I.es c _ _ h2)
        · split at h
          · rename_i hf
            exact I.bl c x args e' p pos hgl hf hs h
          · cases h
    · rename_i o m apos
      split at h
      · rename_i ho
        rw [Bool.and_eq_true] at ho
        split at h
        · rename_i hq
          have := mtC_ok hq
          subst this
          cases h2 : cE G n C o with
          | none => rw [h2] at h; cases h
          | some o' => rw [h2] at h; cases h; exact s_pop0 ho.1 ho.2 (I.e c _ _ h2).1
        · rename_i q b hq
          have := mtC_ok hq
          subst this
          split at h
          · rename_i h1 h2
            cases h
            exact s_mt1 q ho.1 ho.2 (ns1 hs) (I.e c _ _ h1).1 (I.e c _ _ h2).1
          · cases h
        · cases h
      · cases h
    · cases h
  · cases h
theorem ind_e (I : Ind G P n) (c : Cok G P k C X W) (e : Expr) (e' : E) (h : cE G (n + 1) C e = some e') : SE X W e (evE P e') ∧ (tstE e = true → ST X W e (evB P e')) := by
  cases e with
  | Name x p => simp only [cE] at h; exact both rfl (c.name h)
  | Constant q j p =>
    simp only [cE] at h
    cases q <;> first | (cases h; first | exact both rfl s_non | exact both rfl s_bl | exact both rfl s_int | exact both rfl s_str) | cases h
  | Tuple es j p =>
    simp only [cE] at h
    cases h2 : cEs G n C es with
    | none => rw [h2] at h; cases h
    | some es' => rw [h2] at h; cases h; exact both rfl (s_tup (I.es c _ _ h2))
  | List es p =>
    simp only [cE] at h
    cases h2 : cEs G n C es with
    | none => rw [h2] at h; cases h
    | some es' => rw [h2] at h; cases h; exact both rfl (s_lst (I.es c _ _ h2))
  | BinOp a op b p =>
    simp only [cE] at h
    split at h
    · rename_i o a' b' h1 h2 h3
      cases h
      have := bopC_ok h1
      subst this
      exact both rfl (s_bin o (I.e c _ _ h2).1 (I.e c _ _ h3).1)
    · cases h
  | Compare a ops bs p => exact ind_cmp I c a ops bs p e' h
  | BoolOp op es p =>
    simp only [cE] at h
    obtain ⟨h1, h2⟩ := I.b c op es e' p h
    exact ⟨h1, fun _ => h2.pt⟩
  | UnaryOp op a p =>
    simp only [cE] at h
    cases op with
    | Not =>
      simp only at h
      split at h
      · rename_i ht
        cases h2 : cE G n C a with
        | none => rw [h2] at h; cases h
        | some a' =>
          rw [h2] at h; cases h
          refine ⟨s_not (I.e c _ _ h2).1, fun _ => ?_⟩
          rw [evB_not]
          exact t_not ((I.e c _ _ h2).2 ht)
      · cases h
    | USub =>
      cases h2 : cE G n C a with
      | none => rw [h2] at h; cases h
      | some a' => rw [h2] at h; cases h; exact both rfl (s_neg (I.e c _ _ h2).1)
    | _ => cases h
  | IfExp q a b p =>
    simp only [cE] at h
    split at h
    · rename_i ht
      split at h
      · rename_i h1 h2 h3
        cases h
        refine ⟨?_, fun z => by cases z⟩
        rw [evE_ite]
        exact s_ite ((I.e c _ _ h1).2 ht) (I.e c _ _ h2).1 (I.e c _ _ h3).1
      · cases h
    · cases h
  | Subscript a i p => exact both rfl (ind_sub I c a i p e' h)
  | ListComp elt gens scope p =>
    simp only [cE] at h
    split at h
    · rename_i tg it ifs as
      split at h
      · rename_i has
        have has : as = 0 := by simpa using has
        subst has
        obtain ⟨own, it', g, cs, elt', q⟩ := I.lc c _ _ _ _ _ _ h
        exact both rfl (q.se c)
      · cases h
    · cases h
  | Call f args kws p => exact both rfl (ind_call I c f args kws p e' h)
  | _ => simp only [cE] at h; cases h
theorem ind : ∀ n, Ind G P n
  | 0 => ind0
  | n + 1 => {
    e := fun c => ind_e (ind n) c
    es := fun c => ind_es (ind n) c
    b := fun c => ind_b (ind n) c
    bl := fun c => ind_bl (ind n) c
    f1 := fun c => ind_f1 (ind n) c
    it := fun c => ind_it (ind n) c
    lc := fun c => ind_lc (ind n) c }
end
end Pv
end

section
set_option Elab.async false
set_option linter.all false
set_option maxRecDepth 100000
set_option maxHeartbeats 8000000
namespace Pv
open PySem PySem.Spec PyProof.Rows L2

/-! ### statements compiled -/
def swB (sc : Scope) (t : Str) (pl vl : Nat) (scope : Scope) : Bool := sc.names.lookup t == some .local && pl == vl && !(scope.names.any fun (n, k) => n == t && (k == .local || k == .cell))
def starB : Expr → Bool
  | .Starred .. => true
  | _ => false
def nmOf (sc : Scope) (l : Nat) : Expr → Option Str
  | .Name id pos => if sc.names.lookup id == some .local && pos.line == l then some id else none
  | _ => none
def lineOf (ts : List Expr) : Nat := (ts.head?.map (·.pos.line)).getD 0
/-- what the exchanged stores of a tuple's display are; none: not told -/
def swP (sc : Scope) (ts vs : List Expr) : Option (Option (List Str)) :=
  if (!(ts.length == 2 || ts.length == 3) || vs.length != ts.length) = true then some none
  else if vs.any starB = true then some none
  else if ((ts.filterMap (nmOf sc (lineOf ts))).length != ts.length || (ts.filterMap (nmOf sc (lineOf ts))).eraseDups.length != (ts.filterMap (nmOf sc (lineOf ts))).length) = true then some none
  else if vs.all (foldedForSure 8) = true then some none
  else if vs.all (constantsAlone 8) = true then none
  else some (some (ts.filterMap (nmOf sc (lineOf ts))))
theorem swP_ok {sc : Scope} {env : Env} {ts vs : List Expr} {r : Option (List Str)} {k k2 : Nat} {p p2 : Pos} (he : env.scope = sc) (hk : sc.kind = .function) (h : swP sc ts vs = some r) : swappedStores [.Tuple ts k p] (.Tuple vs k2 p2) env = pure r := by
  have hb : env.blockKind = .function := by unfold Env.blockKind; rw [he, hk]; rfl
  have e1 : (env.blockKind != .function) = false := by rw [hb] <;> rfl
  have hko : ∀ x, env.kindOf x = sc.names.lookup x := fun x => by unfold Env.kindOf; rw [he]
  unfold swappedStores
  simp only [e1, Bool.or_false, hko]
  change (if (!(ts.length == 2 || ts.length == 3) || vs.length != ts.length) = true then pure none else
    if vs.any starB = true then pure none else
    if ((ts.filterMap (nmOf sc (lineOf ts))).length != ts.length || (ts.filterMap (nmOf sc (lineOf ts))).eraseDups.length != (ts.filterMap (nmOf sc (lineOf ts))).length) = true then pure none else
    if vs.all (foldedForSure 8) = true then pure none else
    if vs.all (constantsAlone 8) = true then (do unsupported "assign.tuple-of-constant-expressions:order-of-the-stores"; pure (some (ts.filterMap (nmOf sc (lineOf ts))))) else pure (some (ts.filterMap (nmOf sc (lineOf ts))))) = (pure r : Sem (Option (List Str)))
  unfold swP at h
  by_cases c1 : (!(ts.length == 2 || ts.length == 3) || vs.length != ts.length) = true
  · rw [if_pos c1] at h ⊢; cases h; rfl
  · rw [if_neg c1] at h ⊢
    by_cases c2 : vs.any starB = true
    · rw [if_pos c2] at h ⊢; cases h; rfl
    · rw [if_neg c2] at h ⊢
      by_cases c3 : ((ts.filterMap (nmOf sc (lineOf ts))).length != ts.length || (ts.filterMap (nmOf sc (lineOf ts))).eraseDups.length != (ts.filterMap (nmOf sc (lineOf ts))).length) = true
      · rw [if_pos c3] at h ⊢; cases h; rfl
      · rw [if_neg c3] at h ⊢
        by_cases c4 : vs.all (foldedForSure 8) = true
        · rw [if_pos c4] at h ⊢; cases h; rfl
        · rw [if_neg c4] at h ⊢
          by_cases c5 : vs.all (constantsAlone 8) = true
          · rw [if_pos c5] at h; cases h
          · rw [if_neg c5] at h ⊢; cases h; rfl
theorem swP_two {sc : Scope} {x y : Str} {px py : Pos} {vs : List Expr} {names : List Str} (h : swP sc [.Name x px, .Name y py] vs = some (some names)) : names = [x, y] := by
  unfold swP at h
  split at h
  · cases h
  · split at h
    · cases h
    · split at h
      · cases h
      · rename_i c3
        split at h
        · cases h
        · split at h
          · cases h
          · cases h
            simp only [Bool.or_eq_true, not_or, bne_iff_ne, ne_eq, Decidable.not_not] at c3
            have c31 := c3.1
            simp only [List.filterMap_cons, List.filterMap_nil] at c31 ⊢
            cases e1 : nmOf sc (lineOf [.Name x px, .Name y py]) (.Name x px) with
            | none => rw [e1] at c31; simp only at c31; split at c31 <;> simp at c31
            | some u =>
              cases e2 : nmOf sc (lineOf [.Name x px, .Name y py]) (.Name y py) with
              | none => rw [e1, e2] at c31; simp at c31
              | some w =>
                have f1 : u = x := by unfold nmOf at e1; simp only at e1; split at e1 <;> simp_all
                have f2 : w = y := by unfold nmOf at e2; simp only at e2; split at e2 <;> simp_all
                rw [f1, f2]
theorem sole_tg {e tg : Expr} {l : Nat} {env : Env} (h : ∀ x p, tg ≠ .Name x p) : swapsWithSole [tg] e l env = pure false := by
  unfold swapsWithSole; exact swaps_tg h
theorem sole_no {e tg : Expr} {l : Nat} {env : Env} (h : notLc e = true) : swapsWithSole [tg] e l env = pure false := by
  unfold swapsWithSole; exact swaps_no h
def isTupE : Expr → Bool
  | .Tuple .. => true
  | _ => false
theorem sw_none {tg e : Expr} {env : Env} (h : isTupE e = false ∨ ∀ ts k p, tg ≠ .Tuple ts k p) (h2 : ∀ ts p, tg ≠ .List ts p) : swappedStores [tg] e env = pure none := by
  unfold swappedStores
  cases tg <;> cases e <;> first | rfl | (rcases h with h | h; cases h; exact absurd rfl (h _ _ _)) | exact absurd rfl (h2 _ _)
mutual
def cS (G : GG) : Nat → CC → Stmt → Option S
  | 0, _, _ => none
  | n + 1, C, s => match s with
    | .Expr e _ => if notLc e then (cE G n C e).map .expr else none
    | .Return o _ => match o with
      | some e => (cE G n C e).map .ret
      | none => some .retN
    | .Pass _ => some .pass
    | .Break _ => some .brk
    | .Continue _ => some .cont
    | .Raise _ _ _ => some .never
    | .Assign ts e pos => match ts with
      | [tg] => match tg with
        | .Name x _ => match ixOf x C.N 0 with
          | some i => if locB C.sc x && (C.fn x || isLocB C.sc x) then cSet G n C i e else none
          | none => none
        | .Subscript o i _ => if notSlice i then match cE G n C e, cE G n C o, cE G n C i with
            | some e', some o', some i' => some (.setix o' i' e')
            | _, _, _ => none
          else none
        | .Tuple ts _ _ => match e with
          | .Tuple vs _ _ => match swP C.sc ts vs with
            | some none => match cTg C n tg, cE G n C e with
              | some g, some e' => some (.asg g e')
              | _, _ => none
            | some (some _) => match ts, vs with
              | [.Name x _, .Name y _], [a, b] => if isLocB C.sc x && isLocB C.sc y && notStar a && notStar b then match ixOf x C.N 0, ixOf y C.N 0, cE G n C a, cE G n C b with
                  | some i, some j, some a', some b' => if i == j then none else some (.par i j a' b')
                  | _, _, _, _ => none
                else none
              | _, _ => none
            | none => none
          | e => if notLc e then match cTg C n tg, cE G n C e with
              | some g, some e' => some (.asg g e')
              | _, _ => none
            else none
        | _ => none
      | _ => none
    | .If c a b _ => if tstE c then match cE G n C c, cSs G n C a, cSs G n C b with
        | some c', some a', some b' => some (.ite c' a' b')
        | _, _, _ => none
      else none
    | .While c b els _ => if tstE c && els.isEmpty then match cE G n C c, cSs G n C b with
        | some c', some b' => some (.whl c' b')
        | _, _ => none
      else none
    | .For tg it b els _ => if notSet it && els.isEmpty then match cTg C n tg, cIt G n C tg it, cSs G n C b with
        | some g, some i', some b' => some (.fr g i' b')
        | _, _, _ => none
      else none
    | _ => none
/-- name = e -/
def cSet (G : GG) : Nat → CC → Nat → Expr → Option S
  | 0, _, _, _ => none
  | n + 1, C, i, e => (cE G n C e).map (.asg (.nm i))
def cSs (G : GG) : Nat → CC → List Stmt → Option Ss
  | 0, _, _ => none
  | n + 1, C, ss => match ss with
    | [] => some .nil
    | s :: ss => match cS G n C s, cSs G n C ss with
      | some s', some ss' => some (.cons s' ss')
      | _, _ => none
end
section
variable {G : GG} {P : Prg} {k n : Nat} {C : CC} {X : Cx} {W : WX}
structure Sok (G : GG) (P : Prg) (k : Nat) (C : CC) (X : Cx) (W : WX) : Prop extends Cok G P k C X W where
  kd : C.sc.kind = .function
  pass : PassesOwn (model X.prog X.w) X.A X.env X.xe
theorem cE_lc {e : Expr} {e' : E} (h : cE G n C e = some e') (hl : notLc e = false) : ∃ m elt tg it ifs scope pos, n = m + 1 ∧ e = .ListComp elt [⟨tg, it, ifs, 0⟩] scope pos ∧ cLc G m C elt tg it ifs scope = some e' := by
  cases n with
  | zero => simp [cE] at h
  | succ m =>
    cases e <;> first | cases hl | skip
    · simp only [cE] at h
      split at h
      · split at h
        · rename_i has
          have has := eq_of_beq has
          subst has
          exact ⟨_, _, _, _, _, _, _, rfl, rfl, h⟩
        · cases h
      · cases h
    · simp only [cE] at h; cases h
    · simp only [cE] at h; cases h
theorem ind_set (c : Sok G P k C X W) {x : Str} {i : Nat} {e : Expr} {px pos : Pos} {s' : S} (hi : ixOf x C.N 0 = some i) (hl : locB C.sc x = true) (hf : (C.fn x || isLocB C.sc x) = true) (h : cSet G n C i e = some s') : SS X W (.Assign [.Name x px] e pos) (evS P s') := by
  cases n with
  | zero => simp [cSet] at h
  | succ n =>
    simp only [cSet] at h
    have hN : X.N.Nodup := by rw [c.N]; exact c.nd
    have hi' : X.N[i]? = some x := by rw [c.N]; simpa using (ixOf_ok hi).2
    have hx : Loc X.env.scope x := by rw [c.sc]; exact locB_ok hl
    have hf' : X.fn x = true ∨ X.env.scope.names.lookup x = some .local := by
      rw [Bool.or_eq_true] at hf
      rcases hf with z | z
      · exact .inl (by rw [c.fn]; exact z)
      · exact .inr (by rw [c.sc]; exact isLocB_ok z)
    cases h2 : cE G n C e with
    | none => rw [h2] at h; cases h
    | some e' =>
      rw [h2] at h; cases h
      have se := ((ind n).e c.toCok _ _ h2).1
      cases hlc : notLc e with
      | true => exact ss_set hN hi' hx hf' (swaps_no hlc) se
      | false =>
        obtain ⟨m, elt, tg, it, ifs, scope, cp, rfl, rfl, h3⟩ := cE_lc h2 hlc
        have hsw : swapsWith (.ListComp elt [⟨tg, it, ifs, 0⟩] scope cp) (some (.Name x px)) pos.line X.env = pure (swB C.sc x px.line cp.line scope) := by
          have hb : X.env.blockKind = .function := by unfold Env.blockKind; rw [c.sc, c.kd]; rfl
          unfold swapsWith swB Env.kindOf
          simp only [hb, c.sc]
          rfl
        cases hb : swB C.sc x px.line cp.line scope with
        | false => rw [hb] at hsw; exact ss_set hN hi' hx hf' hsw se
        | true =>
          rw [hb] at hsw
          obtain ⟨own, it', g, cs, elt', q⟩ := (ind m).lc c.toCok _ _ _ _ _ _ h3
          have hxl : X.env.scope.names.lookup x = some .local := by
            unfold swB at hb
            simp only [Bool.and_eq_true] at hb
            rw [c.sc]
            exact eq_of_beq hb.1.1
          rw [q.eq]
          exact ss_setLc c.calm hN hi' hxl hsw q.walk q.blk q.tg q.ts q.elt q.inn q.ns
theorem ind_s : ∀ n, (∀ {k C X W}, Sok G P k C X W → ∀ s s', cS G n C s = some s' → SS X W s (evS P s')) ∧ (∀ {k C X W}, Sok G P k C X W → ∀ ss ss', cSs G n C ss = some ss' → SSs X W ss (evSs P ss'))
  | 0 => ⟨fun _ _ _ h => by simp [cS] at h, fun _ _ _ h => by simp [cSs] at h⟩
  | n + 1 => by
    obtain ⟨ih1, ih2⟩ := ind_s n
    refine ⟨fun {k C X W} c s s' h => ?_, fun {k C X W} c ss ss' h => ?_⟩
    · have I := ind (G := G) (P := P) n
      cases s with
      | Expr e p =>
        simp only [cS] at h
        split at h
        · rename_i hl
          cases h2 : cE G n C e with
          | none => rw [h2] at h; cases h
          | some e' => rw [h2] at h; cases h; exact ss_expr hl (I.e c.toCok _ _ h2).1
        · cases h
      | Return o p =>
        simp only [cS] at h
        cases o with
        | none => cases h; exact ss_retN
        | some e =>
          have h : (cE G n C e).map S.ret = some s' := h
          cases h2 : cE G n C e with
          | none => rw [h2] at h; cases h
          | some e' => rw [h2] at h; cases h; exact ss_ret (I.e c.toCok _ _ h2).1
      | Pass p => simp only [cS] at h; cases h; exact ss_pass
      | Break p => simp only [cS] at h; cases h; exact ss_break
      | Continue p => simp only [cS] at h; cases h; exact ss_cont
      | Raise a b p => simp only [cS] at h; cases h; exact ss_never
      | Assign ts e pos =>
        simp only [cS] at h
        split at h
        · rename_i tg
          split at h
          · rename_i x px
            split at h
            · rename_i i hi
              split at h
              · rename_i hf
                rw [Bool.and_eq_true] at hf
                exact ind_set c hi hf.1 hf.2 h
              · cases h
            · cases h
          · rename_i o i p
            split at h
            · rename_i hs
              split at h
              · rename_i h1 h2 h3
                cases h
                exact ss_setix (sole_tg fun _ _ z => by cases z) (sw_none (.inr fun _ _ _ z => by cases z) fun _ _ z => by cases z) hs (I.e c.toCok _ _ h1).1 (I.e c.toCok _ _ h2).1 (I.e c.toCok _ _ h3).1
              · cases h
            · cases h
          · rename_i ts kt pt
            have hst : notStar (.Tuple ts kt pt) = true := rfl
            split at h
            · rename_i vs kv pv
              split at h
              · rename_i hw
                split at h
                · rename_i g e' h1 h2
                  cases h
                  exact ss_asg ((c.toCok.tgs n).1 _ _ h1) (I.e c.toCok _ _ h2).1 rfl (swP_ok c.sc c.kd hw) rfl
                · cases h
              · rename_i names hw
                split at h
                · rename_i x px y py a b
                  split at h
                  · rename_i hl
                    simp only [Bool.and_eq_true] at hl
                    obtain ⟨⟨⟨l1, l2⟩, s1⟩, s2⟩ := hl
                    split at h
                    · rename_i i j a' b' e1 e2 h1 h2
                      split at h
                      · cases h
                      · rename_i hij
                        cases h
                        have hnm : names = [x, y] := swP_two hw
                        rw [hnm] at hw
                        exact ss_par c.calm (by rw [c.N]; exact c.nd) (by rw [c.N]; simpa using (ixOf_ok e1).2) (by rw [c.N]; simpa using (ixOf_ok e2).2) (by simpa using hij) (by rw [c.sc]; exact isLocB_ok l1) (by rw [c.sc]; exact isLocB_ok l2) s1 s2 (I.e c.toCok _ _ h1).1 (I.e c.toCok _ _ h2).1 (swP_ok c.sc c.kd hw)
                    · cases h
                  · cases h
                · cases h
              · cases h
            · rename_i hne
              split at h
              · rename_i hl
                split at h
                · rename_i g e' h1 h2
                  cases h
                  refine ss_asg ((c.toCok.tgs n).1 _ _ h1) (I.e c.toCok _ _ h2).1 (sole_no hl) (sw_none (.inl ?_) fun _ _ z => by cases z) rfl
                  cases e <;> first | rfl | exact absurd rfl (hne _ _ _)
                · cases h
              · cases h
          · cases h
        · cases h
      | If q a b p =>
        simp only [cS] at h
        split at h
        · rename_i ht
          split at h
          · rename_i h1 h2 h3
            cases h
            exact ss_ite ((I.e c.toCok _ _ h1).2 ht) (ih2 c _ _ h2) (ih2 c _ _ h3)
          · cases h
        · cases h
      | While q b els p =>
        simp only [cS] at h
        split at h
        · rename_i ht
          rw [Bool.and_eq_true] at ht
          have he : els = [] := by simpa using ht.2
          subst he
          split at h
          · rename_i h1 h2
            cases h
            exact ss_while c.pass ((I.e c.toCok _ _ h1).2 ht.1) (ih2 c _ _ h2)
          · cases h
        · cases h
      | For tg it b els p =>
        simp only [cS] at h
        split at h
        · rename_i ht
          rw [Bool.and_eq_true] at ht
          have he : els = [] := by simpa using ht.2
          subst he
          split at h
          · rename_i h1 h2 h3
            cases h
            exact ss_for c.pass c.calm (I.it c.toCok _ _ _ h2) ((c.toCok.tgs n).1 _ _ h1) (ih2 c _ _ h3) ht.1
          · cases h
        · cases h
      | _ => simp only [cS] at h; cases h
    · simp only [cSs] at h
      split at h
      · cases h; exact sss_nil
      · split at h
        · rename_i h1 h2
          cases h
          exact sss_cons (ih1 c _ _ h1) (ih2 c _ _ h2)
        · cases h
end
end Pv
end

section
set_option Elab.async false
set_option linter.all false
set_option maxRecDepth 100000
set_option maxHeartbeats 8000000
namespace Pv
open PySem PySem.Spec PyProof.Rows L2

/-! ### all defs of a text -/
def plainArgs (a : Arguments) : Option (List Str) := match a with
  | ⟨[], as, none, [], [], none, []⟩ => some (as.map (·.arg))
  | _ => none
theorem zip_look : ∀ {ps : List Str} {us : List Value}, ps.Nodup → us.length = ps.length → ∀ (f : Str → Option Value), (∀ p ∈ ps, f p = (ps.zip us).lookup p) → ps.filterMap (fun n => (f n).map (n, ·)) = ps.zip us ∧ ∀ p ∈ ps, (f p).isNone = false
  | [], us, _, _, f, hf => ⟨by simp, by simp⟩
  | p :: ps, [], _, h, f, hf => by simp at h
  | p :: ps, u :: us, nd, h, f, hf => by
    have nd' := List.nodup_cons.mp nd
    have hp : f p = some u := by rw [hf p List.mem_cons_self]; simp
    have ih := zip_look (ps := ps) (us := us) nd'.2 (by simpa using h) f fun q hq => by
      rw [hf q (List.mem_cons_of_mem _ hq)]
      have : (q == p) = false := by
        rw [beq_eq_false_iff_ne]
        intro e
        rw [e] at hq
        exact nd'.1 hq
      rw [List.zip_cons_cons, List.lookup_cons, this]
    refine ⟨?_, fun q hq => ?_⟩
    · rw [List.filterMap_cons, hp]
      show (p, u) :: _ = _
      rw [ih.1] <;> rfl
    · rcases List.mem_cons.mp hq with e | hq
      · subst e; rw [hp] <;> rfl
      · exact ih.2 q hq
theorem bind_plain {x qual : Str} {body : List Stmt} {scope : Scope} {kV doc pm cdv ct : Value} {an : Option Addr} {as : List Arg} {us : List Value} (nd : (as.map (·.arg)).Nodup) (hl : us.length = as.length) :
    bindArgs (PySem.W.fnOf x qual ⟨[], as, none, [], [], none, []⟩ body scope .none kV doc pm an cdv ct) ⟨us, []⟩ = pure ((as.map (·.arg)).zip us) := by
  obtain ⟨h1, h2⟩ := zip_look nd (by simpa using hl) (fun n => ((as.map (·.arg)).zip us).lookup n) fun _ _ => rfl
  unfold bindArgs
  simp only [PySem.W.fnOf, List.map_nil, List.nil_append, List.append_nil]
  have hlen : us.length = (as.map (·.arg)).length := by simpa using hl
  have hgt : (decide (us.length > (as.map (·.arg)).length) && none.isNone (α := Arg)) = false := by
    rw [hlen] <;> simp
  have hmiss : ((as.map (·.arg)).take (as.map (·.arg)).length).filter (fun n => (((as.map (·.arg)).zip us).lookup n).isNone) = [] := by
    rw [List.take_length, List.filter_eq_nil_iff]
    intro p hp
    rw [h2 p hp]
    exact Bool.false_ne_true
  simp only [List.forIn_nil, pure_bind, show seqItems? Value.none = pure none from rfl, Option.getD_none, List.drop_nil, List.length_nil, Nat.zero_sub, Nat.sub_zero, hgt, Bool.false_eq_true, if_false, hmiss, List.isEmpty_nil, Bool.not_true, List.zip_nil_right, h1]
theorem bind_args {x qual : Str} {body : List Stmt} {scope : Scope} {kV doc pm cdv ct : Value} {an : Option Addr} {a : Arguments} {ps N : List Str} (h : plainArgs a = some ps) (S : FnScope N ps scope) (us : List Value) (hl : us.length = ps.length) : bindArgs (PySem.W.fnOf x qual a body scope .none kV doc pm an cdv ct) ⟨us, []⟩ = pure (ps.zip us) := by
  have nd : ps.Nodup := by
    have := S.nd
    rw [← S.pre]
    exact this.sublist (List.take_sublist _ _)
  unfold plainArgs at h
  split at h
  · cases h
    exact bind_plain nd (by simpa using hl)
  · cases h
structure DD where
  name : Str
  qual : Str
  params : Arguments
  body : List Stmt
  scope : Scope
  N : List Str
def fnsC (N ps : List Str) (sc : Scope) : Bool := (match sc.kind with | .function => true | _ => false) && !sc.isCoroutine && !sc.isGenerator && decide N.Nodup && decide (N.take ps.length = ps) && ps.all (fun x => locB sc x) && sc.names.all fun y => match y.2 with | .free => false | _ => true
theorem fnsC_ok {N ps : List Str} {sc : Scope} (h : fnsC N ps sc = true) : FnScope N ps sc := by
  unfold fnsC at h
  simp only [Bool.and_eq_true, List.all_eq_true, decide_eq_true_eq, Bool.not_eq_true'] at h
  obtain ⟨⟨⟨⟨⟨⟨h1, h2⟩, h3⟩, h4⟩, h5⟩, h6⟩, h7⟩ := h
  refine ⟨?_, h2, h3, h4, h5, fun x hx => locB_ok (h6 x hx), fun y hy e => ?_⟩
  · split at h1
    · assumption
    · cases h1
  · have := h7 y hy
    rw [e] at this
    cases this
def DD.comp (G : GG) (d : DD) : Option Df := match plainArgs d.params with
  | some ps => if fnsC d.N ps d.scope then (cSs G 80 ⟨d.N, d.scope, fun _ => true⟩ d.body).map fun b => ⟨d.N.length, ps.length, b⟩ else none
  | none => none
section
variable {K : PySem.W.Frag} {mg : Str → Option Value} {F H H' : Hp} {m m' : List Addr} {h h' : Hd}
theorem look_app : ∀ (l r : List (Nat × Ob)) (i : Nat), look (l ++ r) i = match look l i with | some o => some o | none => look r i
  | [], r, i => rfl
  | (j, o) :: l, r, i => by
    have ih := look_app l r i
    show (if j = i then some o else look (l ++ r) i) = _
    show _ = match (if j = i then some o else look l i) with | some o => some o | none => look r i
    by_cases hj : j = i
    · rw [if_pos hj, if_pos hj]
    · rw [if_neg hj, if_neg hj, ih]
theorem allL_look : ∀ {l : List (Nat × Ob)} {i : Nat} {o : Ob}, allL l = true → look l i = some o → ∃ ts, o = .lst ts
  | [], _, _, _, h => by cases h
  | (j, .lst ts) :: l, i, o, ha, h => by
    have h : (if j = i then some (Ob.lst ts) else look l i) = some o := h
    split at h
    · cases h; exact ⟨ts, rfl⟩
    · exact allL_look (l := l) ha h
/-- the heap behind a call that saw none of it -/
theorem Sim.back (s : Sim K mg m h H F) (p : Pre m m') (s' : Sim K mg m' h' H' H) : Sim K mg m' ⟨h'.next, h.obs⟩ H' F := by
  have ex : Ext H H' := s'.fr
  exact ⟨s'.len, fun i o e => let ⟨a, e1, r⟩ := s.obj i o e; ⟨a, p.get e1, r.ext p ex⟩, fun i j a h1 h2 e1 e2 => by
      obtain ⟨o1, q1⟩ := Option.isSome_iff_exists.mp h1
      obtain ⟨o2, q2⟩ := Option.isSome_iff_exists.mp h2
      obtain ⟨a1, f1, _⟩ := s.obj i o1 q1
      obtain ⟨a2, f2, _⟩ := s.obj j o2 q2
      have g1 := p.get f1
      have g2 := p.get f2
      rw [e1] at g1; cases g1
      rw [e2] at g2; cases g2
      exact s.inj i j a h1 h2 f1 f2, fun a o e => ex _ _ (s.fr a o e), fun i ts a e1 e2 => by
      obtain ⟨a1, f1, _⟩ := s.obj i _ e1
      have g1 := p.get f1
      rw [e2] at g1; cases g1
      exact s.sep i ts a e1 f1⟩
theorem Sim.join (s : Sim K mg m h H F) (p : Pre m m') (s' : Sim K mg m' h' H' H) (hl : allL h'.obs = true) : Sim K mg m' ⟨h'.next, h'.obs ++ h.obs⟩ H' F := by
  have ex : Ext H H' := s'.fr
  have back := s.back p s'
  have get : ∀ i o, (⟨h'.next, h'.obs ++ h.obs⟩ : Hd).get i = some o → h'.get i = some o ∨ (h'.get i = none ∧ h.get i = some o) := fun i o e => by
    have e : look (h'.obs ++ h.obs) i = some o := e
    rw [look_app] at e
    cases q : look h'.obs i with
    | none => rw [q] at e; exact .inr ⟨q, e⟩
    | some u => rw [q] at e; cases e; exact .inl q
  have old : ∀ i o a, h.get i = some o → m'[i]? = some a → ∃ u, H a = some u := fun i o a e ea => by
    obtain ⟨a1, f1, r1⟩ := s.obj i o e
    have g1 := p.get f1
    rw [ea] at g1; cases g1
    cases o with
    | lst ts => obtain ⟨xs, q, _⟩ := r1; exact ⟨_, q⟩
  have new : ∀ i o a, h'.get i = some o → m'[i]? = some a → H a = none := fun i o a e ea => by
    obtain ⟨ts, rfl⟩ := allL_look hl e
    exact s'.sep i ts a e ea
  refine ⟨s'.len, fun i o e => ?_, fun i j a h1 h2 e1 e2 => ?_, back.fr, fun i ts a e1 e2 => ?_⟩
  · rcases get i o e with e | ⟨_, e⟩
    · exact s'.obj i o e
    · exact back.obj i o e
  · obtain ⟨o1, q1⟩ := Option.isSome_iff_exists.mp h1
    obtain ⟨o2, q2⟩ := Option.isSome_iff_exists.mp h2
    rcases get i o1 q1 with g1 | ⟨_, g1⟩ <;> rcases get j o2 q2 with g2 | ⟨_, g2⟩
    · exact s'.inj i j a (by rw [g1]; rfl) (by rw [g2]; rfl) e1 e2
    · obtain ⟨u, hu⟩ := old j o2 a g2 e2
      rw [new i o1 a g1 e1] at hu; cases hu
    · obtain ⟨u, hu⟩ := old i o1 a g1 e1
      rw [new j o2 a g2 e2] at hu; cases hu
    · exact back.inj i j a (by show (h.get i).isSome = true; rw [g1]; rfl) (by show (h.get j).isSome = true; rw [g2]; rfl) e1 e2
  · rcases get i _ e1 with g1 | ⟨_, g1⟩
    · cases q : F a with
      | none => rfl
      | some o => have := s.fr a o q; rw [new i _ a g1 e2] at this; cases this
    · exact back.sep i ts a g1 e2
/-- the heap as it was -/
theorem Sim.same (s : Sim K mg m h H F) (ex : Ext H H') : Sim K mg m h H' F := s.ext ex
mutual
theorem Rp.pureM : ∀ (t : T) (v : V), t.pure = true → Rp K mg m' H t v → Rp K mg m H t v
  | .non, _, _, r => r
  | .bl _, _, _, r => r
  | .int _, _, _, r => r
  | .str _, _, _, r => r
  | .tup ts, _, e, r => by
    obtain ⟨a, xs, e1, q, rs⟩ := r
    exact ⟨a, xs, e1, q, Rps.pureM ts xs e rs⟩
  | .fl ts, _, e, r => by
    obtain ⟨a, xs, e1, q, rs⟩ := r
    exact ⟨a, xs, e1, q, Rps.pureM ts xs e rs⟩
  | .ref _, _, e, _ => by cases e
  | .fn _, _, _, r => r
  | .ty _, _, _, r => r
theorem Rps.pureM : ∀ (ts : List T) (vs : List V), T.pures ts = true → Rps K mg m' H ts vs → Rps K mg m H ts vs
  | [], _, _, r => r
  | t :: ts, _, e, r => by
    obtain ⟨v, vs, e1, r1, r2⟩ := r
    have e : (t.pure && T.pures ts) = true := e
    rw [Bool.and_eq_true] at e
    exact ⟨v, vs, e1, Rp.pureM t v e.1 r1, Rps.pureM ts vs e.2 r2⟩
end
theorem Sim.bare (s : Sim K mg m h H F) : Sim K mg m ⟨h.next, []⟩ H H where
  len := s.len
  obj := fun i o e => by cases e
  inj := fun i j a e => by cases e
  fr := fun a o e => e
  sep := fun i ts a e => by cases e
theorem rs_start {ts : List T} {vs : List V} {N : List Str} (r : Rps K mg m H ts vs) : RSl K mg m H (ts.map some ++ List.replicate (N.length - ts.length) none) (L2.start N vs) := by
  have hl := r.length
  refine ⟨by unfold L2.start; simp [hl], fun i t e => ?_⟩
  by_cases hi : i < ts.length
  · rw [List.getElem?_append_left (by simpa using hi)] at e
    rw [List.getElem?_map] at e
    cases q : ts[i]? with
    | none => rw [q] at e; cases e
    | some u =>
      rw [q] at e; cases e
      obtain ⟨v, hv, rv⟩ := r.get q
      refine ⟨v, ?_, rv⟩
      unfold L2.start
      rw [List.getElem?_append_left (by rw [List.length_map]; omega), List.getElem?_map, hv]
      rfl
  · rw [List.getElem?_append_right (by simpa using Nat.le_of_not_lt hi)] at e
    rw [List.getElem?_replicate] at e
    split at e <;> cases e
end
section
variable {P : Program} {w : World} {K : PySem.W.Frag} {mg : Str → Option Value} {base : Heap} {G : GG} {DL : List (Str × Df)} {glob : Str → Option T} {Wn : Nat}
def GlobF (K : PySem.W.Frag) (mg : Str → Option Value) (x : Str) (t : T) : Prop := ∃ u v, mg x = some u ∧ RelV v u ∧ ∀ m H, Rp K mg m H t v
/-- what is known of the text's head -/
structure Text (K : PySem.W.Frag) (mg : Str → Option Value) (G : GG) (DL : List (Str × Df)) (glob : Str → Option T) : Prop where
  defs : ∀ f df, DL.lookup f = some df → ∃ (d : DD) (ad : Addr) (fd : FuncData), d.comp G = some df ∧ mg f = some (.ref ad) ∧ FunD K d.name d.qual d.params d.body d.scope [] [] ad fd
  ar : ∀ f a, G.ar f = some a → ∃ df, DL.lookup f = some df
  glob : ∀ x t, glob x = some t → GlobF K mg x t
  free : ∀ x, G.free x = true → mg x = none
def DefG (P : Program) (w : World) (K : PySem.W.Frag) (mg : Str → Option Value) (base : Heap) (k : Nat) (f : Str) (g : List T → Hd → Res T) : Prop := ∃ (ad : Addr) (fd : FuncData) (ps : List Str), mg f = some (.ref ad) ∧ PySem.W.keepIn K (.ref ad) = true ∧ Binds K fd ps [] ∧
  FnOk P w K mg base (L2.CX P w) k ad fd ps (spOf K mg g ps.length) ∧ ∀ ts h, ts.length ≠ ps.length → g ts h = .fail
theorem comp_ok {d : DD} {df : Df} (h : d.comp G = some df) : ∃ ps, plainArgs d.params = some ps ∧ FnScope d.N ps d.scope ∧ cSs G 80 ⟨d.N, d.scope, fun _ => true⟩ d.body = some df.body ∧ df.n = d.N.length ∧ df.ps = ps.length := by
  unfold DD.comp at h
  split at h
  · rename_i ps hp
    split at h
    · rename_i hf
      cases e : cSs G 80 ⟨d.N, d.scope, fun _ => true⟩ d.body with
      | none => rw [e] at h; cases h
      | some b => rw [e] at h; cases h; exact ⟨ps, hp, fnsC_ok hf, rfl, rfl, rfl⟩
    · cases h
  · cases h
theorem def_at (tx : Text K mg G DL glob) : ∀ (k : Nat) (f : Str) (df : Df), DL.lookup f = some df → ∀ (d : DD) (ad : Addr) (fd : FuncData), d.comp G = some df → mg f = some (.ref ad) → FunD K d.name d.qual d.params d.body d.scope [] [] ad fd →
    ∃ ps, plainArgs d.params = some ps ∧ FnScope d.N ps d.scope ∧ FnOk P w K mg base (L2.CX P w) k ad fd ps (spOf K mg (callN DL glob Wn k f) ps.length) ∧ ∀ ts h, ts.length ≠ ps.length → callN DL glob Wn k f ts h = .fail
  | 0, f, df, hf, d, ad, fd, hc, hm, F => by
    obtain ⟨ps, hp, S, _, _, _⟩ := comp_ok hc
    exact ⟨ps, hp, S, ⟨fun vs H Q E h => h.1, fun A outer s H args us vs Q E hr he hb hv ⟨_, ts, m, h, F, _, _, a⟩ => False.elim a⟩, fun _ _ _ => rfl⟩
  | k + 1, f, df, hf, d, ad, fd, hc, hm, F => by
    have ih : ∀ (f : Str) (df : Df), DL.lookup f = some df → DefG P w K mg base k f (callN DL glob Wn k f) := fun f df hf => by
      obtain ⟨d, ad, fd, hc, hm, F⟩ := tx.defs f df hf
      obtain ⟨ps, hp, S, ok, hl⟩ := def_at tx k f df hf d ad fd hc hm F
      exact ⟨ad, fd, ps, hm, F.kp, F.bindsN fun _ _ _ _ _ _ us hl => bind_args hp S us hl, ok, hl⟩
    obtain ⟨ps, hp, S, hb, hn, hps⟩ := comp_ok hc
    have hcall : ∀ ts h, callN DL glob Wn (k + 1) f ts h = if T.pures ts then after h (runDf ⟨callN DL glob Wn k, glob, Wn⟩ df ts ⟨h.next, []⟩) else runDf ⟨callN DL glob Wn k, glob, Wn⟩ df ts h := fun ts h => by
      show (match DL.lookup f with | some d => _ | none => _) = _
      rw [hf]
    have hfail : ∀ ts h, ts.length ≠ ps.length → callN DL glob Wn (k + 1) f ts h = .fail := fun ts h hl => by
      have hr : ∀ h, runDf ⟨callN DL glob Wn k, glob, Wn⟩ df ts h = .fail := fun h => by
        unfold runDf
        rw [if_neg (by rw [hps]; exact hl)]
      rw [hcall, hr, hr]
      split <;> rfl
    refine ⟨ps, hp, S, ?_, hfail⟩
    refine F.ok S (fun vs H Q E h => h.1) fun cdv A outer s H vs Q E hr ⟨hl, ts, m, h, F0, rs, si, a⟩ => ?_
    let X := cxOf (L2.CX P w) P w K mg base d.N d.qual d.scope ad cdv A outer s H E
    let Pg : Prg := ⟨callN DL glob Wn k, glob, Wn⟩
    let W : WX := fun cls d _ H => E cls d H
    have ck : Sok G Pg k ⟨d.N, d.scope, fun _ => true⟩ X W := {
      N := rfl
      nd := S.nd
      sc := rfl
      fn := fun _ => rfl
      calm := rfl
      room := hr
      tk := takes_of rfl rfl rfl rfl
      glob := fun x t e => tx.glob x t e
      free := tx.free
      defs := fun f' a' e => by
        obtain ⟨df', hdf⟩ := tx.ar f' a' e
        exact ih f' df' hdf
      kd := S.kind
      pass := passes_of (K := fun e s'' => L2.CX P w outer H s E e s'') rfl }
    refine ⟨rdS K mg W (evSs Pg df.body), (ind_s 80).2 ck d.body df.body hb, ?_⟩
    have hlen : ts.length = ps.length := by rw [rs.length]; exact hl
    have hrun : ∀ h, runDf Pg df ts h = match evSs Pg df.body (ts.map some ++ List.replicate (d.N.length - ts.length) none) h with
      | .nx _ h => .ok .non h
      | .rt t h => .ok t h
      | .err c p _ h => .err c p h
      | _ => .fail := fun h => by
        unfold runDf
        rw [if_pos (by rw [hps]; exact hlen), hn, hps, ← hlen]
        try rfl
    rw [hcall] at a
    have rsl := rs_start (N := d.N) rs
    by_cases hpu : T.pures ts = true
    · rw [if_pos hpu] at a
      refine ⟨_, m, ⟨h.next, []⟩, H, rsl, si.bare, ?_⟩
      rw [hrun] at a
      cases e : evSs Pg df.body (ts.map some ++ List.replicate (d.N.length - ts.length) none) ⟨h.next, []⟩ with
      | nx ρ h' =>
        rw [e] at a
        have a : Ans K mg (fun C d _ H' => E C d H') F0 m H [] (.ok T.non h) (fun t m' h' H' => ∀ v, Rp K mg m' H' t v → Q v H') := a
        exact fun m' H' σ' p t r s' => a m H' (Pre.refl _) t (si.same s'.fr) .non rfl
      | rt t h' =>
        rw [e] at a
        have a : Ans K mg (fun C d _ H' => E C d H') F0 m H [] (if t.pure then .ok t h else if allL h'.obs then .ok t ⟨h'.next, h'.obs ++ h.obs⟩ else .fail) (fun t m' h' H' => ∀ v, Rp K mg m' H' t v → Q v H') := a
        intro m' H' v p t' s' rv
        split at a
        · rename_i hp
          exact a m H' (Pre.refl _) t' (si.same s'.fr) v (Rp.pureM t v hp rv)
        · split at a
          · rename_i hal
            exact a m' H' p t' (si.join p s' hal) v rv
          · exact False.elim a
      | err c q ρ h' =>
        rw [e] at a
        have a : Ans K mg (fun C d _ H' => E C d H') F0 m H [] (after h (.err c q h')) (fun t m' h' H' => ∀ v, Rp K mg m' H' t v → Q v H') := a
        intro m' H' σ' C d p t r s' rx
        cases q with
        | none => exact a m H' C d (Pre.refl _) t (si.same s'.fr) rx
        | some u =>
          have a : Ans K mg (fun C d _ H' => E C d H') F0 m H [] (if u.pure then .err c (some u) h else .err c (some u) ⟨h'.next, h.obs⟩ : Res T) (fun t m' h' H' => ∀ v, Rp K mg m' H' t v → Q v H') := a
          split at a
          · rename_i hp
            obtain ⟨f, e1, e2, x, v, e3, e4, e5⟩ := rx
            exact a m H' C d (Pre.refl _) t (si.same s'.fr) ⟨f, e1, e2, x, v, e3, e4, Rp.pureM u v hp e5⟩
          · exact a m' H' C d p t (si.back p s') rx
      | bk => rw [e] at a; exact False.elim a
      | ct => rw [e] at a; exact False.elim a
      | fail => rw [e] at a; exact False.elim a
    · rw [if_neg hpu] at a
      refine ⟨_, m, h, F0, rsl, si, ?_⟩
      rw [hrun] at a
      cases e : evSs Pg df.body (ts.map some ++ List.replicate (d.N.length - ts.length) none) h with
      | nx ρ h' => rw [e] at a; exact fun m' H' σ' p t r s' => a m' H' p t s' .non rfl
      | rt t h' => rw [e] at a; exact fun m' H' v p t' s' rv => a m' H' p t' s' v rv
      | err c q ρ h' => rw [e] at a; exact fun m' H' σ' C d p t r s' rx => a m' H' C d p t s' rx
      | bk => rw [e] at a; exact False.elim a
      | ct => rw [e] at a; exact False.elim a
      | fail => rw [e] at a; exact False.elim a
end
end Pv
end

section
set_option Elab.async false
set_option linter.all false
set_option maxRecDepth 100000
set_option maxHeartbeats 8000000
namespace Pv
open PySem PySem.Spec PyProof.Rows L2

/-! ### a text as data, and the head's facts -/
structure PD where
  dds : List DD
  cints : List (Str × Int)
  cstrs : List (Str × Str)
  frees : List Str
  DL : List (Str × Df)
def PD.glob (p : PD) (x : Str) : Option T := match p.cints.lookup x with
  | some i => some (.int i)
  | none => match p.cstrs.lookup x with
    | some z => some (.str z)
    | none => none
def PD.G (p : PD) : GG := ⟨p.glob, fun f => (p.DL.lookup f).map (·.ps), fun x => p.frees.contains x⟩
def DD.toD (d : DD) : He.DefD := ⟨(d.name, none), d.name, d.qual, d.params, d.body, d.scope, [], []⟩
def PD.fn (p : PD) : List He.DefD := p.dds.map DD.toD
def PD.fa (p : PD) : List He.Fa := p.dds.map (fun d => .glo d.name) ++ (p.frees.map .free ++ (p.cints.map (fun q => .int q.1 q.2) ++ p.cstrs.map fun q => .str q.1 q.2))
def PD.Good (p : PD) : Prop := p.dds.map (fun d => (d.name, d.comp p.G)) = p.DL.map fun q => (q.1, some q.2)
theorem lookup_mem {α : Type} : ∀ {l : List (Str × α)} {x : Str} {a : α}, l.lookup x = some a → (x, a) ∈ l
  | (k, b) :: l, x, a, h => by
    rw [List.lookup_cons] at h
    cases q : x == k with
    | true =>
      rw [q] at h
      have : x = k := eq_of_beq q
      cases h
      rw [this]
      exact List.mem_cons_self
    | false => rw [q] at h; exact List.mem_cons_of_mem _ (lookup_mem h)
theorem lookup_map : ∀ {dds : List DD} {G : GG} {DL : List (Str × Df)} {f : Str} {df : Df}, dds.map (fun d => (d.name, d.comp G)) = DL.map (fun q => (q.1, some q.2)) → (f, df) ∈ DL → ∃ d ∈ dds, d.name = f ∧ d.comp G = some df
  | [], _, [], _, _, _, h => absurd h (by simp)
  | [], _, _ :: _, _, _, e, _ => by simp at e
  | _ :: _, _, [], _, _, e, _ => by simp at e
  | d :: ds, G, q :: DL, f, df, e, h => by
    simp only [List.map_cons, List.cons.injEq, Prod.mk.injEq] at e
    rcases List.mem_cons.mp h with e2 | h
    · subst e2
      exact ⟨d, List.mem_cons_self, e.1.1, e.1.2⟩
    · obtain ⟨d', h1, h2⟩ := lookup_map e.2 h
      exact ⟨d', List.mem_cons_of_mem _ h1, h2⟩
theorem PD.text {p : PD} (g : p.Good) {K : PySem.W.Frag} {h : Heap} {mg : Str → Option Value} (X : K.In h) (N : h.Ns mainGlobals mg) (c : He.SaysD p.fa p.fn K) : Text K mg p.G p.DL p.glob where
  defs := fun f df e => by
    obtain ⟨d, hd, rfl, hc⟩ := lookup_map g (lookup_mem e)
    obtain ⟨fd, F⟩ := c.defs (d := d.toD) (List.mem_map.mpr ⟨d, hd, rfl⟩)
    have gl := He.glo_ok X N (c.facts (f := .glo d.name) (List.mem_append_left _ (List.mem_map.mpr ⟨d, hd, rfl⟩)))
    exact ⟨d, _, fd, hc, gl, F⟩
  ar := fun f a e => by
    have e : (p.DL.lookup f).map (·.ps) = some a := e
    cases q : p.DL.lookup f with
    | none => rw [q] at e; cases e
    | some df => exact ⟨df, rfl⟩
  glob := fun x t e => by
    unfold PD.glob at e
    split at e
    · rename_i i hi
      cases e
      obtain ⟨k, hm⟩ := He.int_ok X N (c.facts (f := .int x i) (List.mem_append_right _ (List.mem_append_right _ (List.mem_append_left _ (List.mem_map.mpr ⟨(x, i), lookup_mem hi, rfl⟩)))))
      exact ⟨_, .int i, hm, ⟨k, rfl⟩, fun _ _ => rfl⟩
    · split at e
      · rename_i z hz
        cases e
        obtain ⟨k, hm⟩ := He.str_ok X N (c.facts (f := .str x z) (List.mem_append_right _ (List.mem_append_right _ (List.mem_append_right _ (List.mem_map.mpr ⟨(x, z), lookup_mem hz, rfl⟩)))))
        exact ⟨_, .str z, hm, ⟨k, rfl⟩, fun _ _ => rfl⟩
      · cases e
  free := fun x e => by
    have e : p.frees.contains x = true := e
    exact He.free_ok X N (c.facts (f := .free x) (List.mem_append_right _ (List.mem_append_left _ (List.mem_map.mpr ⟨x, by simpa using e, rfl⟩))))
/-- the law's promise -/
def spLaw (K : PySem.W.Frag) : Sp := fun vs H Q _ => ∃ (a : Addr) (ns : List Int), vs = [.ref a] ∧ SqF K H a (ns.map V.int) ∧ ns.length ≤ 63 ∧ ∀ H', Q (.bl true) H'
theorem ints_rps {K : PySem.W.Frag} {mg : Str → Option Value} {m : List Addr} {H : Hp} : ∀ ns : List Int, Rps K mg m H (ns.map T.int) (ns.map V.int)
  | [] => .nil
  | _ :: ns => .cons rfl (ints_rps ns)
theorem Sim.empty {K : PySem.W.Frag} {mg : Str → Option Value} {H : Hp} : Sim K mg [] ⟨0, []⟩ H (fun _ => none) where
  len := rfl
  obj := fun i o e => by cases e
  inj := fun i j a e => by cases e
  fr := fun a o e => by cases e
  sep := fun i ts a e => by cases e
/-- what is to be shown of the evaluator -/
def PD.Law (p : PD) (Wn k : Nat) : Prop := ∀ ns : List Int, ns.length ≤ 63 → ∃ h', callN p.DL p.glob Wn k ("law" : Str) [.fl (ns.map .int)] ⟨0, []⟩ = .ok (.bl true) h'
theorem law_walk {l : PySem.W.OpenLaw} {q : Program} {loose : List Str} {XP : (Str → Option Value) → Heap → Prop} {d : DefRec} {p : PD} {Wn k n : Nat} {df : Df} (g : p.Good) (hl : p.DL.lookup ("law" : Str) = some df) (hrun : p.Law Wn k) (hn : l.most = some 63) (hdf : d.params.defaults = []) (hname : d.name = ("law" : Str)) (hr : Room k callerA) :
    PySem.W.WalkO q loose XP (He.hookD n p.fa p.fn).says l.row.toRowW d [] (fun f vs => PySem.call f vs) := by
  refine Att.attach_call hn hdf fun w s0 s1 mg mb fa o pm cd doc a vs ns GG0 Y ho hd hcd hmg hobj hints hlen hg => ?_
  obtain ⟨K, KX, c⟩ := Y
  rw [hname] at hmg
  have tx := PD.text g KX GG0.T.g c
  obtain ⟨dd, ad, fd, hc, hm, F⟩ := tx.defs _ df hl
  have e1 : fa = ad := by
    have := hm.symm.trans hmg
    cases this; rfl
  subst e1
  obtain ⟨ps, hp, S, _, hlen0⟩ := def_at (P := l.prog) (w := w) (base := s1.heap) (Wn := Wn) tx k _ df hl dd fa fd hc hm F
  have hps : ps.length = 1 := by
    obtain ⟨h', e⟩ := hrun [] (by decide)
    by_cases z : ([T.fl ([].map .int)] : List T).length = ps.length
    · simpa using z.symm
    · rw [hlen0 _ _ z] at e; cases e
  obtain ⟨x, rfl⟩ : ∃ x, ps = [x] := by
    cases ps with
    | nil => cases hps
    | cons x r => cases r with
      | nil => exact ⟨x, rfl⟩
      | cons _ _ => simp at hps
  refine law_call (x := x) (sp := spLaw K) (fd := fd) (CX := L2.CX l.prog w) KX GG0.T.g GG0.T.b GG0.T.builtins GG0.T.nolimit hg hobj hints (Nat.le_trans hlen (by decide)) hr (fun base hb hns => ?_) (fun s u => ?_) (fun H hO hS => ?_) fun H e s' z => ?_
  · obtain ⟨ps', hp', S', ok, _⟩ := def_at (P := l.prog) (w := w) (base := base) (Wn := Wn) tx k _ df hl dd fa fd hc hm F
    rw [hp] at hp'; cases hp'
    refine ok.imp fun vs H Q E h => ?_
    obtain ⟨a, ns, rfl, hs, hl63, q⟩ := h
    obtain ⟨h', e⟩ := hrun ns hl63
    refine ⟨rfl, [.fl (ns.map .int)], [], ⟨0, []⟩, fun _ => none, .cons ⟨a, _, rfl, hs, ints_rps ns⟩ .nil, Sim.empty, ?_⟩
    rw [e]
    intro m' H' _ _ _ v rv
    cases rv
    exact q H'
  · exact FunD.bindsA (ps := [x]) F (fun _ _ _ _ _ _ us hl => bind_args hp S us hl) s [u] rfl
  · refine ⟨a, ns, rfl, ?_, hlen, fun _ => rfl⟩
    rcases hS with hS | hS
    · rcases hS with hS | hS
      · rcases hO a with z | ⟨o, xs, z⟩
        · rw [z] at hS; cases hS
        · rw [z] at hS; cases hS
      · exact .inl hS
    · exact .inr hS
  · obtain ⟨_, _, _, _, _, _, _, _, _, _, _, _, z⟩ := z
    exact z
end Pv
end

section
set_option Elab.async false
set_option linter.all false
set_option maxRecDepth 100000
set_option maxHeartbeats 4000000
namespace Pv
open PySem PySem.Spec PyProof.Rows
/-! ### int trees: ints and tuples of such -/
mutual
def T.it : T → Bool
  | .int _ => true
  | .tup ts => T.its ts
  | _ => false
def T.its : List T → Bool
  | [] => true
  | t :: ts => t.it && T.its ts
end
mutual
def T.dep : T → Nat
  | .tup ts => T.deps ts + 1
  | _ => 1
def T.deps : List T → Nat
  | [] => 0
  | t :: ts => max t.dep (T.deps ts)
end
mutual
theorem it_dat (f : Nat → Option PyData) : ∀ t : T, t.it = true → ∃ d, t.dat f = some d ∧ d.canLay0 = true ∧ d.depth ≤ t.dep
  | .int i, _ => ⟨.int i, rfl, rfl, by simp [PyData.depth, T.dep]⟩
  | .tup ts, h => by
    obtain ⟨ds, e, c, l⟩ := its_dat f ts h
    refine ⟨.tuple ds, by show (T.dats f ts).map PyData.tuple = _; rw [e]; rfl, c, ?_⟩
    simp only [PyData.depth, T.dep]
    omega
  | .non, h => by cases h
  | .bl _, h => by cases h
  | .str _, h => by cases h
  | .fl _, h => by cases h
  | .ref _, h => by cases h
  | .fn _, h => by cases h
  | .ty _, h => by cases h
theorem its_dat (f : Nat → Option PyData) : ∀ ts : List T, T.its ts = true → ∃ ds, T.dats f ts = some ds ∧ PyData.canLayAll0 ds = true ∧ PyData.depthAll ds ≤ T.deps ts
  | [], _ => ⟨[], rfl, rfl, by simp [PyData.depthAll, T.deps]⟩
  | t :: ts, h => by
    have h : (t.it && T.its ts) = true := h
    rw [Bool.and_eq_true] at h
    obtain ⟨d, e, c, l⟩ := it_dat f t h.1
    obtain ⟨ds, e2, c2, l2⟩ := its_dat f ts h.2
    refine ⟨d :: ds, ?_, ?_, ?_⟩
    · show (match t.dat f, T.dats f ts with | some d, some ds => some (d :: ds) | _, _ => none) = _
      rw [e, e2]
    · show (d.canLay0 && PyData.canLayAll0 ds) = true
      rw [c, c2] <;> rfl
    · simp only [PyData.depthAll, T.deps]
      omega
end
mutual
theorem it_eqv (f : Nat → Option PyData) : ∀ (x y : T) (d e : PyData), x.it = true → y.it = true → x.dat f = some d → y.dat f = some e → (PyData.eqv d e = true ↔ x = y)
  | .int i, .int j, d, e, _, _, h1, h2 => by
    cases h1; cases h2
    simp [PyData.eqv]
  | .int i, .tup ys, d, e, _, hy, h1, h2 => by
    cases h1
    have h2 : (T.dats f ys).map PyData.tuple = some e := h2
    cases q : T.dats f ys with
    | none => rw [q] at h2; cases h2
    | some ds => rw [q] at h2; cases h2; simp [PyData.eqv]
  | .tup xs, .int j, d, e, hx, _, h1, h2 => by
    cases h2
    have h1 : (T.dats f xs).map PyData.tuple = some d := h1
    cases q : T.dats f xs with
    | none => rw [q] at h1; cases h1
    | some ds => rw [q] at h1; cases h1; simp [PyData.eqv]
  | .tup xs, .tup ys, d, e, hx, hy, h1, h2 => by
    have h1 : (T.dats f xs).map PyData.tuple = some d := h1
    have h2 : (T.dats f ys).map PyData.tuple = some e := h2
    cases q : T.dats f xs with
    | none => rw [q] at h1; cases h1
    | some ds =>
      cases q2 : T.dats f ys with
      | none => rw [q2] at h2; cases h2
      | some es =>
        rw [q] at h1; cases h1
        rw [q2] at h2; cases h2
        have := its_eqv f xs ys ds es hx hy q q2
        simp only [PyData.eqv, this, T.tup.injEq]
  | .non, _, _, _, h, _, _, _ => by cases h
  | .bl _, _, _, _, h, _, _, _ => by cases h
  | .str _, _, _, _, h, _, _, _ => by cases h
  | .fl _, _, _, _, h, _, _, _ => by cases h
  | .ref _, _, _, _, h, _, _, _ => by cases h
  | .fn _, _, _, _, h, _, _, _ => by cases h
  | .ty _, _, _, _, h, _, _, _ => by cases h
  | .int _, .non, _, _, _, h, _, _ => by cases h
  | .int _, .bl _, _, _, _, h, _, _ => by cases h
  | .int _, .str _, _, _, _, h, _, _ => by cases h
  | .int _, .fl _, _, _, _, h, _, _ => by cases h
  | .int _, .ref _, _, _, _, h, _, _ => by cases h
  | .int _, .fn _, _, _, _, h, _, _ => by cases h
  | .int _, .ty _, _, _, _, h, _, _ => by cases h
  | .tup _, .non, _, _, _, h, _, _ => by cases h
  | .tup _, .bl _, _, _, _, h, _, _ => by cases h
  | .tup _, .str _, _, _, _, h, _, _ => by cases h
  | .tup _, .fl _, _, _, _, h, _, _ => by cases h
  | .tup _, .ref _, _, _, _, h, _, _ => by cases h
  | .tup _, .fn _, _, _, _, h, _, _ => by cases h
  | .tup _, .ty _, _, _, _, h, _, _ => by cases h
theorem its_eqv (f : Nat → Option PyData) : ∀ (xs ys : List T) (ds es : List PyData), T.its xs = true → T.its ys = true → T.dats f xs = some ds → T.dats f ys = some es → (PyData.eqvAll ds es = true ↔ xs = ys)
  | [], [], ds, es, _, _, h1, h2 => by cases h1; cases h2; simp [PyData.eqvAll]
  | [], y :: ys, ds, es, _, hy, h1, h2 => by
    cases h1
    obtain ⟨es', e, _, _⟩ := its_dat f (y :: ys) hy
    rw [h2] at e; cases e
    have h2 : (match y.dat f, T.dats f ys with | some d, some ds => some (d :: ds) | _, _ => none) = some es := h2
    split at h2
    · cases h2; simp [PyData.eqvAll]
    · cases h2
  | x :: xs, [], ds, es, hx, _, h1, h2 => by
    cases h2
    have h1 : (match x.dat f, T.dats f xs with | some d, some ds => some (d :: ds) | _, _ => none) = some ds := h1
    split at h1
    · cases h1; simp [PyData.eqvAll]
    · cases h1
  | x :: xs, y :: ys, ds, es, hx, hy, h1, h2 => by
    have h1 : (match x.dat f, T.dats f xs with | some d, some ds => some (d :: ds) | _, _ => none) = some ds := h1
    have h2 : (match y.dat f, T.dats f ys with | some d, some ds => some (d :: ds) | _, _ => none) = some es := h2
    have hx : (x.it && T.its xs) = true := hx
    have hy : (y.it && T.its ys) = true := hy
    rw [Bool.and_eq_true] at hx hy
    split at h1
    · rename_i d dr q1 q2
      cases h1
      split at h2
      · rename_i e er q3 q4
        cases h2
        simp only [PyData.eqvAll, Bool.and_eq_true, it_eqv f x y d e hx.1 hy.1 q1 q3, its_eqv f xs ys dr er hx.2 hy.2 q2 q4, List.cons.injEq]
      · cases h2
    · cases h1
end
theorem shaped_it {f : Nat → Option PyData} {t : T} {d : PyData} (h : t.it = true) (hd : t.dep ≤ 60) (e : t.dat f = some d) : SeqAt.shaped d = true := by
  obtain ⟨d', e', c, l⟩ := it_dat f t h
  rw [e] at e'; cases e'
  unfold SeqAt.shaped
  rw [c, Bool.true_and]
  exact decide_eq_true (by omega)
theorem eqD_it {h : Hd} {x y : T} (hx : x.it = true) (hy : y.it = true) (dx : x.dep ≤ 60) (dy : y.dep ≤ 60) : ∃ b, eqD h (.v x) (.v y) = some b ∧ (b = true ↔ x = y) := by
  obtain ⟨d, e1, _, _⟩ := it_dat (refD h 6) x hx
  obtain ⟨e, e2, _, _⟩ := it_dat (refD h 6) y hy
  refine ⟨PyData.eqv d e, ?_, it_eqv _ x y d e hx hy e1 e2⟩
  have s1 := shaped_it hx dx e1
  have s2 := shaped_it hy dy e2
  unfold eqD
  show (match x.dat (refD h 6), y.dat (refD h 6) with | some d, some e => if SeqAt.shaped d && SeqAt.shaped e then some (PyData.eqv d e) else none | _, _ => none) = _
  rw [e1, e2]
  simp only [s1, s2, Bool.and_self, if_true]
/-- what stands among int trees -/
theorem inD_it {h : Hd} {x : T} {y : VV} {b : Bool} {ts : List T} (hx : x.it = true) (dx : x.dep ≤ 50) (hi : items h y = some (b, ts)) (hts : T.its ts = true) (dts : T.deps ts ≤ 50) : ∃ k, inD h (.v x) y = some k ∧ (k = true ↔ x ∈ ts) := by
  obtain ⟨d, e1, _, _⟩ := it_dat (refD h 6) x hx
  obtain ⟨ds, e2, c2, l2⟩ := its_dat (refD h 6) ts hts
  have s1 := shaped_it hx (by omega) e1
  have s2 : SeqAt.shaped (.list ds) = true := by
    unfold SeqAt.shaped
    have : (PyData.list ds).canLay0 = true := c2
    rw [this, Bool.true_and]
    refine decide_eq_true ?_
    simp only [PyData.depth]
    omega
  refine ⟨ds.any fun z => PyData.eqv z d, ?_, ?_⟩
  · unfold inD
    show (match x.dat (refD h 6), items h y with | some d, some (_, ts) => _ | _, _ => none) = _
    rw [e1, hi]
    simp only [e2, s1, s2, Bool.and_self, if_true]
  · have key : ∀ (us : List T) (es : List PyData), T.its us = true → T.dats (refD h 6) us = some es → ((es.any fun z => PyData.eqv z d) = true ↔ x ∈ us) := by
      intro us
      induction us with
      | nil => intro es _ e; cases e; simp
      | cons u us ih =>
        intro es hu e
        have hu : (u.it && T.its us) = true := hu
        rw [Bool.and_eq_true] at hu
        have e : (match u.dat (refD h 6), T.dats (refD h 6) us with | some d, some ds => some (d :: ds) | _, _ => none) = some es := e
        split at e
        · rename_i d' dr q1 q2
          cases e
          rw [List.any_cons, Bool.or_eq_true, ih dr hu.2 q2, it_eqv _ u x d' d hu.1 hx q1 e1, List.mem_cons]
          exact ⟨fun z => z.imp Eq.symm id, fun z => z.imp Eq.symm id⟩
        · cases e
    exact key ts ds hts e2
/-! rows of ints -/
def ti (l : List Int) : List T := l.map .int
def tI (l : List Int) : T := .tup (ti l)
theorem its_ti : ∀ l, T.its (ti l) = true
  | [] => rfl
  | _ :: l => its_ti l
theorem deps_ti : ∀ l, T.deps (ti l) ≤ 1
  | [] => by simp [ti, T.deps]
  | i :: l => by
    have := deps_ti l
    show max 1 (T.deps (ti l)) ≤ 1
    omega
theorem pures_ti : ∀ l, T.pures (ti l) = true
  | [] => rfl
  | _ :: l => pures_ti l
theorem ti_inj : ∀ {a b : List Int}, ti a = ti b ↔ a = b
  | [], [] => by simp
  | [], _ :: _ => by simp [ti]
  | _ :: _, [] => by simp [ti]
  | x :: a, y :: b => by
    have := ti_inj (a := a) (b := b)
    unfold ti at this ⊢
    simp only [List.map_cons, List.cons.injEq, T.int.injEq, this]
theorem tI_inj {a b : List Int} : tI a = tI b ↔ a = b := by
  unfold tI
  rw [T.tup.injEq, ti_inj]
theorem mem_ti {i : Int} {l : List Int} : T.int i ∈ ti l ↔ i ∈ l := by
  unfold ti
  rw [List.mem_map]
  exact ⟨fun ⟨j, hj, e⟩ => by cases e; exact hj, fun h => ⟨i, h, rfl⟩⟩
theorem eq_ints {h : Hd} (a b : List Int) : eqD h (.v (tI a)) (.v (tI b)) = some (decide (a = b)) := by
  obtain ⟨k, e, hk⟩ := eqD_it (h := h) (x := tI a) (y := tI b) (its_ti a) (its_ti b) (by have := deps_ti a; show T.deps (ti a) + 1 ≤ 60; omega) (by have := deps_ti b; show T.deps (ti b) + 1 ≤ 60; omega)
  rw [e]
  rw [tI_inj] at hk
  cases k with
  | true => rw [decide_eq_true (hk.mp rfl)]
  | false => rw [decide_eq_false fun z => by have := hk.mpr z; cases this]
theorem eq_int {h : Hd} (a b : Int) : eqD h (.v (.int a)) (.v (.int b)) = some (decide (a = b)) := by
  obtain ⟨k, e, hk⟩ := eqD_it (h := h) (x := .int a) (y := .int b) rfl rfl (by simp [T.dep]) (by simp [T.dep])
  rw [e]
  rw [T.int.injEq] at hk
  cases k with
  | true => rw [decide_eq_true (hk.mp rfl)]
  | false => rw [decide_eq_false fun z => by have := hk.mpr z; cases this]
theorem in_ints {h : Hd} {y : VV} {b : Bool} (i : Int) (l : List Int) (hi : items h y = some (b, ti l)) : inD h (.v (.int i)) y = some (decide (i ∈ l)) := by
  obtain ⟨k, e, hk⟩ := inD_it (h := h) (x := .int i) rfl (by simp [T.dep]) hi (its_ti l) (by have := deps_ti l; omega)
  rw [e]
  rw [mem_ti] at hk
  cases k with
  | true => rw [decide_eq_true (hk.mp rfl)]
  | false => rw [decide_eq_false fun z => by have := hk.mpr z; cases this]

/-! ### comprehensions over what does not change -/
/-- a walk whose items are ts, whatever the heap -/
def ItV.fix (v : ItV) (h : Hd) (ts : List T) : Prop := ∀ n, v.at h n = some ts[n]?
theorem fix_tp {ts : List T} {h : Hd} : (ItV.one (.tp ts)).fix h ts := fun _ => rfl
theorem fix_kl {ts : List T} {h : Hd} : (ItV.one (.kl ts)).fix h ts := fun _ => rfl
theorem fix_tl {ts : List T} {h : Hd} : (ItV.one (.tl ts)).fix h ts := fun _ => rfl
theorem fix_lv {i : Nat} {h : Hd} {ts : List T} (e : h.get i = some (.lst ts)) : (ItV.one (.lv i)).fix h ts := fun n => by
  show (match h.get i with | some o => some o.items[n]? | none => none) = _
  rw [e] <;> rfl
theorem fix_rng {lo : Int} {k : Nat} {h : Hd} : (ItV.rng lo k).fix h ((List.range k).map fun i => .int (lo + (i : Nat))) := fun n => by
  show some (if n < k then some (T.int (lo + n)) else none) = _
  by_cases hn : n < k
  · rw [if_pos hn, List.getElem?_map, List.getElem?_range hn] <;> rfl
  · rw [if_neg hn, List.getElem?_eq_none (by simpa using hn)]
theorem fix_zip : ∀ {xs ys : List T} {h : Hd}, (ItV.zip (.tp xs) (.tp ys)).fix h (zipT xs ys) := fun {xs ys h} n => by
  show (match (some xs[n]? : Option (Option T)), (some ys[n]? : Option (Option T)) with
    | some (some x), some (some y) => some (some (T.tup [x, y]))
    | some _, some _ => some none
    | _, _ => none) = some (zipT xs ys)[n]?
  induction n generalizing xs ys with
  | zero => cases xs <;> cases ys <;> rfl
  | succ n ih =>
    cases xs with
    | nil => cases ys <;> simp [zipT]
    | cons x xs =>
      cases ys with
      | nil => simp [zipT]
      | cons y ys => simpa [zipT] using ih (xs := xs) (ys := ys)
/-- a comprehension whose turns leave the heap: each item kept or dropped, changed -/
theorem turns_fix {v : ItV} {h : Hd} {ts : List T} (fx : v.fix h ts) {body : T → Hd → Res (Option T)} {f : T → Option T} (hb : ∀ t ∈ ts, body t h = .ok (f t) h) :
    ∀ (k n : Nat) (acc : List T), ts.length < k + n → n ≤ ts.length → acc.length ≤ n → ts.length ≤ lim → turns v body k n acc h = .ok (acc ++ (ts.drop n).filterMap f) h
  | 0, n, acc, hk, hn, _, _ => by omega
  | k + 1, n, acc, hk, hn, ha, hl => by
    show (match v.at h n with
      | some none => Res.ok acc h
      | some (some t) => (body t h).bind fun o h' => match o with
        | some y => if acc.length < lim then turns v body k (n + 1) (acc ++ [y]) h' else .fail
        | none => turns v body k (n + 1) acc h'
      | none => .fail) = _
    rw [fx n]
    by_cases hlt : n < ts.length
    · rw [List.getElem?_eq_getElem hlt]
      show (body ts[n] h).bind _ = _
      rw [hb ts[n] (List.getElem_mem hlt), List.drop_eq_getElem_cons hlt, List.filterMap_cons]
      show (match f ts[n] with
        | some y => if acc.length < lim then turns v body k (n + 1) (acc ++ [y]) h else .fail
        | none => turns v body k (n + 1) acc h) = _
      cases f ts[n] with
      | none => exact turns_fix fx hb k (n + 1) acc (by omega) hlt (by omega) hl
      | some y =>
        show (if acc.length < lim then turns v body k (n + 1) (acc ++ [y]) h else .fail) = _
        rw [if_pos (by omega), turns_fix fx hb k (n + 1) (acc ++ [y]) (by omega) hlt (by rw [List.length_append, List.length_singleton]; omega) hl]
        simp
    · have : n = ts.length := by omega
      subst this
      rw [List.getElem?_eq_none (Nat.le_refl _)]
      simp
theorem turns_all {v : ItV} {h : Hd} {ts : List T} (fx : v.fix h ts) {body : T → Hd → Res (Option T)} {f : T → Option T} {W : Nat} (hb : ∀ t ∈ ts, body t h = .ok (f t) h) (hl : ts.length < W) (hW : W ≤ lim) : turns v body W 0 [] h = .ok (ts.filterMap f) h := by
  have := turns_fix fx hb W 0 [] (by omega) (Nat.zero_le _) (Nat.le_refl _) (by omega)
  simpa using this
/-- a call of trees without objects -/
theorem callN_pure {DL : List (Str × Df)} {glob : Str → Option T} {Wn k : Nat} {f : Str} {d : Df} {ts : List T} {v : T} (e : DL.lookup f = some d) (hp : T.pures ts = true) (hv : v.pure = true)
    (run : ∀ n, ∃ h', runDf ⟨callN DL glob Wn k, glob, Wn⟩ d ts ⟨n, []⟩ = .ok v h') (h : Hd) : callN DL glob Wn (k + 1) f ts h = .ok v h := by
  show (match DL.lookup f with | some d => if T.pures ts then after h (runDf ⟨callN DL glob Wn k, glob, Wn⟩ d ts ⟨h.next, []⟩) else runDf ⟨callN DL glob Wn k, glob, Wn⟩ d ts h | none => .fail) = _
  rw [e]
  simp only [hp, if_true]
  obtain ⟨h', e2⟩ := run h.next
  rw [e2]
  show (if v.pure then Res.ok v h else _) = _
  rw [hv] <;> rfl
theorem callN_at {DL : List (Str × Df)} {glob : Str → Option T} {Wn k : Nat} {f : Str} {d : Df} {ts : List T} (e : DL.lookup f = some d) (hp : T.pures ts = false) (h : Hd) : callN DL glob Wn (k + 1) f ts h = runDf ⟨callN DL glob Wn k, glob, Wn⟩ d ts h := by
  show (match DL.lookup f with | some d => if T.pures ts then after h (runDf ⟨callN DL glob Wn k, glob, Wn⟩ d ts ⟨h.next, []⟩) else runDf ⟨callN DL glob Wn k, glob, Wn⟩ d ts h | none => .fail) = _
  rw [e]
  simp only [hp, Bool.false_eq_true, if_false]
end Pv
end

section
set_option Elab.async false
set_option linter.all false
set_option maxRecDepth 100000
set_option maxHeartbeats 4000000
namespace Pv
open PySem
/-! ### the evaluator by what is wanted behind it -/
def WE {α : Type} (r : Res α) (Q : α → Hd → Prop) : Prop := match r with
  | .ok a h => Q a h
  | _ => False
def WL (x : VV) (h : Hd) (Q : T → Hd → Prop) : Prop := match x with
  | .v t => Q t h
  | .l ts => Q (.ref h.next) (h.new (.lst ts))
theorem exW {α : Type} {o : Option α} {z : α} {Q : α → Prop} (e : o = some z) (q : Q z) : ∃ x, o = some x ∧ Q x := ⟨z, e, q⟩
theorem fewW {ts : List T} {B : Prop} (hl : ts.length ≤ lim) (b : B) : ts.length ≤ lim ∧ B := ⟨hl, b⟩
theorem exW2 {o : Option Bool} {k : Bool} {A B : Prop} (e : o = some k) (a : k = true → A) (b : k = false → B) : ∃ k, o = some k ∧ (k = true → A) ∧ (k = false → B) := ⟨k, e, a, b⟩
structure Ws where
  N : En → Hd → Prop
  R : T → Hd → Prop
  B : En → Hd → Prop := fun _ _ => False
  C : En → Hd → Prop := fun _ _ => False
def WS (r : RS) (D : Ws) : Prop := match r with
  | .nx ρ h => D.N ρ h
  | .rt t h => D.R t h
  | .bk ρ h => D.B ρ h
  | .ct ρ h => D.C ρ h
  | _ => False
section
variable {P : Prg} {ρ : En} {h : Hd} {α β : Type} {Q : VV → Hd → Prop} {a b c e : E} {es : Es} {D : Ws} {s : S} {ss : Ss}
theorem WE.ok {x : α} {Q : α → Hd → Prop} (q : Q x h) : WE (.ok x h) Q := q
theorem WE.of {o : Option α} {Q : α → Hd → Prop} (q : ∃ x, o = some x ∧ Q x h) : WE (.of o h) Q := by
  obtain ⟨x, rfl, q⟩ := q
  exact q
theorem WE.bind {r : Res α} {f : α → Hd → Res β} {Q : β → Hd → Prop} (q : WE r fun x h => WE (f x h) Q) : WE (r.bind f) Q := by
  cases r with
  | ok x h => exact q
  | err => exact q
  | fail => exact q
theorem WE.imp {r : Res α} {Q Q' : α → Hd → Prop} (q : WE r Q) (i : ∀ x h, Q x h → Q' x h) : WE r Q' := by
  cases r with
  | ok x h => exact i x h q
  | err => exact q
  | fail => exact q
theorem WE.eq {r : Res α} {x : α} {Q : α → Hd → Prop} (e : r = .ok x h) (q : Q x h) : WE r Q := by rw [e]; exact q
theorem WE.cl {f : Str} {ts : List T} {x : T} {h' : Hd} {Q : T → Hd → Prop} (e : P.call f ts h = .ok x h') (q : Q x h') : WE (P.call f ts h) Q := by rw [e]; exact q
theorem WE.get {r : Res α} {Q : α → Hd → Prop} (q : WE r Q) : ∃ x h, r = .ok x h ∧ Q x h := by
  cases r with
  | ok x h => exact ⟨x, h, rfl, q⟩
  | err => exact q.elim
  | fail => exact q.elim
theorem WL.v {t : T} {Q : T → Hd → Prop} (q : Q t h) : WL (.v t) h Q := q
theorem WL.l {ts : List T} {Q : T → Hd → Prop} (q : Q (.ref h.next) (h.new (.lst ts))) : WL (.l ts) h Q := q
theorem w_resV {r : Res VV} {Q : T → Hd → Prop} (q : WE r fun x h => WL x h Q) : WE (resV r) Q := by
  refine WE.bind (q.imp fun x h q => ?_)
  cases x <;> exact q
theorem w_slot {i : Nat} {t : T} (e : ρ[i]? = some (some t)) (q : Q (.v t) h) : WE (evE P (.slot i) ρ h) Q := by
  show WE (match ρ[i]? with | some (some t) => Res.ok (VV.v t) h | _ => .fail) Q
  rw [e]; exact q
theorem w_non (q : Q (.v .non) h) : WE (evE P .non ρ h) Q := q
theorem w_bl {k : Bool} (q : Q (.v (.bl k)) h) : WE (evE P (.bl k) ρ h) Q := q
theorem w_int {i : Int} (q : Q (.v (.int i)) h) : WE (evE P (.int i) ρ h) Q := q
theorem w_str {x : Str} (q : Q (.v (.str x)) h) : WE (evE P (.str x) ρ h) Q := q
theorem w_glob {x : Str} {t : T} (e : P.glob x = some t) (q : Q (.v t) h) : WE (evE P (.glob x) ρ h) Q := by
  show WE (.of ((P.glob x).map .v) h) Q
  rw [e]; exact q
theorem w_tup (q : WE (evEs P es ρ h) fun ts h => ts.length ≤ lim ∧ Q (.v (.tup ts)) h) : WE (evE P (.tup es) ρ h) Q := WE.bind (q.imp fun ts h ⟨hl, q⟩ => by
  unfold few
  rw [if_pos hl]; exact q)
theorem w_lst (q : WE (evEs P es ρ h) fun ts h => ts.length ≤ lim ∧ Q (.l ts) h) : WE (evE P (.lst es) ρ h) Q := WE.bind (q.imp fun ts h ⟨hl, q⟩ => by
  unfold few
  rw [if_pos hl]; exact q)
theorem w_nil {Q : List T → Hd → Prop} (q : Q [] h) : WE (evEs P .nil ρ h) Q := q
theorem w_cons {Q : List T → Hd → Prop} (q : WE (evE P e ρ h) fun x h => WL x h fun t h => WE (evEs P es ρ h) fun ts h => Q (t :: ts) h) : WE (evEs P (.cons e es) ρ h) Q := WE.bind (w_resV (q.imp fun x h q => by
  cases x <;> exact WE.bind q))
theorem w_star {Q : List T → Hd → Prop} (q : WE (evE P e ρ h) fun x h => ∃ us, tupOf x = some us ∧ WE (evEs P es ρ h) fun ts h => Q (us ++ ts) h) : WE (evEs P (.star e es) ρ h) Q := WE.bind (q.imp fun x h ⟨us, e, q⟩ => by
  rw [e]; exact WE.bind q)
theorem w_bin {o : Bop} (q : WE (evE P a ρ h) fun x h => WE (evE P b ρ h) fun y h => ∃ z, opB o h x y = some z ∧ Q z h) : WE (evE P (.bin o a b) ρ h) Q := WE.bind (q.imp fun x h q => WE.bind (q.imp fun y h q => WE.of q))
theorem w_cmp {o : Cop} (q : WE (evE P a ρ h) fun x h => WE (evE P b ρ h) fun y h => ∃ k, opC o h x y = some k ∧ Q (.v (.bl k)) h) : WE (evE P (.cmp o a b) ρ h) Q := WE.bind (q.imp fun x h q => WE.bind (q.imp fun y h ⟨k, e, q⟩ => WE.of ⟨_, by rw [e]; rfl, q⟩))
theorem w_chain {o p : Cop} (q : WE (evE P a ρ h) fun x h => WE (evE P b ρ h) fun y h => ∃ k, opC o h x y = some k ∧ (k = true → WE (evE P c ρ h) fun z h => ∃ k, opC p h y z = some k ∧ Q (.v (.bl k)) h) ∧ (k = false → Q (.v (.bl false)) h)) : WE (evE P (.chain o p a b c) ρ h) Q :=
  WE.bind (q.imp fun x h q => WE.bind (q.imp fun y h ⟨k, e, q1, q2⟩ => by
    rw [e]
    cases k with
    | true => exact WE.bind ((q1 rfl).imp fun z h ⟨k, e, q⟩ => WE.of ⟨_, by rw [e]; rfl, q⟩)
    | false => exact q2 rfl))
theorem w_isN (q : WE (evE P a ρ h) fun x h => Q (.v (.bl (isNon x))) h) : WE (evE P (.isN a) ρ h) Q := WE.bind q
theorem w_notN (q : WE (evE P a ρ h) fun x h => Q (.v (.bl (!isNon x))) h) : WE (evE P (.notN a) ρ h) Q := WE.bind q
theorem w_andW (q : WE (evE P a ρ h) fun x h => ∃ k, truth h x = some k ∧ (k = true → WE (evE P b ρ h) Q) ∧ (k = false → Q x h)) : WE (evE P (.and a b) ρ h) Q := WE.bind (q.imp fun x h ⟨k, e, q1, q2⟩ => by
  rw [e]
  cases k with
  | true => exact q1 rfl
  | false => exact q2 rfl)
theorem w_orW (q : WE (evE P a ρ h) fun x h => ∃ k, truth h x = some k ∧ (k = true → Q x h) ∧ (k = false → WE (evE P b ρ h) Q)) : WE (evE P (.or a b) ρ h) Q := WE.bind (q.imp fun x h ⟨k, e, q1, q2⟩ => by
  rw [e]
  cases k with
  | true => exact q1 rfl
  | false => exact q2 rfl)
theorem w_not (q : WE (evE P a ρ h) fun x h => ∃ k, truth h x = some k ∧ Q (.v (.bl (!k))) h) : WE (evE P (.not a) ρ h) Q := WE.bind (q.imp fun x h ⟨k, e, q⟩ => WE.of ⟨_, by rw [e]; rfl, q⟩)
theorem w_neg (q : WE (evE P a ρ h) fun x h => ∃ i, intOf x = some i ∧ Q (.v (.int (-i))) h) : WE (evE P (.neg a) ρ h) Q := WE.bind (q.imp fun x h ⟨k, e, q⟩ => WE.of ⟨_, by rw [e]; rfl, q⟩)
theorem w_ite (q : WE (evE P c ρ h) fun x h => ∃ k, truth h x = some k ∧ (k = true → WE (evE P a ρ h) Q) ∧ (k = false → WE (evE P b ρ h) Q)) : WE (evE P (.ite c a b) ρ h) Q := WE.bind (q.imp fun x h ⟨k, e, q1, q2⟩ => by
  rw [e]
  cases k with
  | true => exact q1 rfl
  | false => exact q2 rfl)
theorem w_call {f : Str} (q : WE (evEs P es ρ h) fun ts h => WE (P.call f ts h) fun t h => Q (.v t) h) : WE (evE P (.call f es) ρ h) Q := WE.bind (q.imp fun ts h q => WE.bind q)
theorem w_f1 {f : F1} (q : WE (evE P a ρ h) fun x h => ∃ z, op1 f h x = some z ∧ Q z h) : WE (evE P (.f1 f a) ρ h) Q := WE.bind (q.imp fun x h q => WE.of q)
theorem w_f2 {f : F2} (q : WE (evE P a ρ h) fun x h => WE (evE P b ρ h) fun y h => ∃ z, op2 f x y = some z ∧ Q z h) : WE (evE P (.f2 f a b) ρ h) Q := WE.bind (q.imp fun x h q => WE.bind (q.imp fun y h q => WE.of q))
theorem w_isi {tys : List String} (q : WE (evE P a ρ h) fun x h => ∃ k, opIsi h x tys = some k ∧ Q (.v (.bl k)) h) : WE (evE P (.isi a tys) ρ h) Q := WE.bind (q.imp fun x h ⟨k, e, q⟩ => WE.of ⟨_, by rw [e]; rfl, q⟩)
theorem w_ix (q : WE (evE P a ρ h) fun x h => WE (evE P b ρ h) fun y h => ∃ z, opIx h x y = some z ∧ Q z h) : WE (evE P (.ix a b) ρ h) Q := WE.bind (q.imp fun x h q => WE.bind (q.imp fun y h q => WE.of q))
theorem w_slAll (q : WE (evE P a ρ h) fun x h => ∃ z, opSl h x none none = some z ∧ Q z h) : WE (evE P (.slAll a) ρ h) Q := WE.bind (q.imp fun x h q => WE.of q)
theorem w_slL (q : WE (evE P a ρ h) fun x h => WE (evE P b ρ h) fun y h => ∃ i, intOf y = some i ∧ ∃ z, opSl h x (some i) none = some z ∧ Q z h) : WE (evE P (.slL a b) ρ h) Q := WE.bind (q.imp fun x h q => WE.bind (q.imp fun y h ⟨i, e, q⟩ => by
  rw [e]; exact WE.of q))
theorem w_slU (q : WE (evE P a ρ h) fun x h => WE (evE P b ρ h) fun y h => ∃ i, intOf y = some i ∧ ∃ z, opSl h x none (some i) = some z ∧ Q z h) : WE (evE P (.slU a b) ρ h) Q := WE.bind (q.imp fun x h q => WE.bind (q.imp fun y h ⟨i, e, q⟩ => by
  rw [e]; exact WE.of q))
theorem w_slLU (q : WE (evE P a ρ h) fun x h => WE (evE P b ρ h) fun y h => ∃ i, intOf y = some i ∧ WE (evE P c ρ h) fun u h => ∃ j, intOf u = some j ∧ ∃ z, opSl h x (some i) (some j) = some z ∧ Q z h) : WE (evE P (.slLU a b c) ρ h) Q := WE.bind (q.imp fun x h q => WE.bind (q.imp fun y h ⟨i, e, q⟩ => by
  rw [e]; exact WE.bind (q.imp fun u h ⟨j, e2, q⟩ => by rw [e2]; exact WE.of q)))
theorem w_pop0 (q : WE (evE P a ρ h) fun x h => WE (pop0 h x) Q) : WE (evE P (.meth0 .pop a) ρ h) Q := WE.bind q
theorem w_meth1 {m : Mt} (q : WE (evE P a ρ h) fun x h => ∃ i, x = .v (.ref i) ∧ (h.get i).isSome = true ∧ WE (evE P b ρ h) fun y h => WL y h fun t h => WE (put1 m h i t) Q) : WE (evE P (.meth1 m a b) ρ h) Q := WE.bind (q.imp fun x h ⟨i, e, hi, q⟩ => by
  subst e
  show WE (if (h.get i).isSome = true then (resV (evE P b ρ h)).bind fun t h => put1 m h i t else .fail) Q
  rw [if_pos hi]
  exact WE.bind (w_resV q))
theorem w_lc {elt : E} {tg : Tg} {it : It} {cs : Es} {vs : List Nat} (q : WE (evI P it ρ h) fun v h => WE (turns v (fun t h => match bindT tg t (wipe ρ vs) with
    | some ρ' => ((evC P cs ρ' h).bind fun b h => if b then (resV (evE P elt ρ' h)).bind fun y h => .ok (some y) h else .ok none h).dead
    | none => .fail) P.W 0 [] h) fun ts h => Q (.l ts) h) : WE (evE P (.lc elt tg it cs vs) ρ h) Q := WE.bind (q.imp fun v h q => WE.bind q)
theorem w_lsR1 (q : WE (evE P a ρ h) fun x h => ∃ i, intOf x = some i ∧ ∃ z, rgL 0 i = some z ∧ Q z h) : WE (evE P (.lsR1 a) ρ h) Q := WE.bind (q.imp fun x h ⟨i, e, q⟩ => by
  rw [e]; exact WE.of q)
theorem w_lsR2 (q : WE (evE P a ρ h) fun x h => WE (evE P b ρ h) fun y h => ∃ i, twoI x y = some i ∧ ∃ z, rgL i.1 i.2 = some z ∧ Q z h) : WE (evE P (.lsR2 a b) ρ h) Q := WE.bind (q.imp fun x h q => WE.bind (q.imp fun y h ⟨i, e, q⟩ => by
  rw [e]; exact WE.of q))
theorem w_lsZ (q : WE (evE P a ρ h) fun x h => WE (evE P b ρ h) fun y h => ∃ z, zipL h x y = some z ∧ Q z h) : WE (evE P (.lsZ a b) ρ h) Q := WE.bind (q.imp fun x h q => WE.bind (q.imp fun y h q => WE.of q))
theorem w_srtSet (q : WE (evE P a ρ h) fun x h => ∃ z, srtS h x = some z ∧ Q z h) : WE (evE P (.srtSet a) ρ h) Q := WE.bind (q.imp fun x h q => WE.of q)
theorem i_seqW {Q : ItV → Hd → Prop} (q : WE (evE P a ρ h) fun x h => ∃ b, biOf h x = some b ∧ Q (.one b) h) : WE (evI P (.seq a) ρ h) Q := WE.bind (q.imp fun x h ⟨b, e, q⟩ => WE.of ⟨_, by rw [e]; rfl, q⟩)
theorem i_rng1W {Q : ItV → Hd → Prop} (q : WE (evE P a ρ h) fun x h => ∃ i, intOf x = some i ∧ small62 i = true ∧ Q (.rng 0 i.toNat) h) : WE (evI P (.rng1 a) ρ h) Q := WE.bind (q.imp fun x h ⟨i, e, e2, q⟩ => by
  rw [e]
  refine WE.of ⟨.rng 0 i.toNat, ?_, q⟩
  show rng1 i = _
  unfold rng1
  rw [if_pos e2])
theorem i_rng2W {Q : ItV → Hd → Prop} (q : WE (evE P a ρ h) fun x h => WE (evE P b ρ h) fun y h => ∃ i j, twoI x y = some (i, j) ∧ small62 i = true ∧ small62 j = true ∧ Q (.rng i (j - i).toNat) h) : WE (evI P (.rng2 a b) ρ h) Q := WE.bind (q.imp fun x h q => WE.bind (q.imp fun y h ⟨i, j, e, e2, e3, q⟩ => by
  rw [e]
  refine WE.of ⟨.rng i (j - i).toNat, ?_, q⟩
  show rng2 i j = _
  unfold rng2
  rw [e2, e3] <;> rfl))
theorem i_rng2L {Q : ItV → Hd → Prop} (q : WE (evE P a ρ h) fun x h => WE (evE P b ρ h) fun y h => ∃ i j, twoI x y = some (i, j) ∧ 9223372036854775808 ≤ i ∧ Q (.rng i (j - i).toNat) h) : WE (evI P (.rng2 a b) ρ h) Q := WE.bind (q.imp fun x h q => WE.bind (q.imp fun y h ⟨i, j, e, e2, q⟩ => by
  rw [e]
  refine WE.of ⟨.rng i (j - i).toNat, ?_, q⟩
  show rng2 i j = _
  unfold rng2
  rw [if_pos (decide_eq_true e2)]
  split <;> rfl))
theorem i_enumW {Q : ItV → Hd → Prop} (q : WE (evE P a ρ h) fun x h => ∃ b, biOf h x = some b ∧ b.isL = true ∧ Q (.enum b) h) : WE (evI P (.enum a) ρ h) Q := WE.bind (q.imp fun x h ⟨b, e, e2, q⟩ => by
  rw [e]
  refine WE.of ⟨.enum b, ?_, q⟩
  show enumI b = _
  unfold enumI
  rw [if_pos e2])
theorem i_zipW {Q : ItV → Hd → Prop} (q : WE (evE P a ρ h) fun x h => WE (evE P b ρ h) fun y h => ∃ p r, biOf h x = some p ∧ biOf h y = some r ∧ (p.isL == r.isL) = true ∧ Q (.zip p r) h) : WE (evI P (.zip a b) ρ h) Q := WE.bind (q.imp fun x h q => WE.bind (q.imp fun y h ⟨p, r, e, e2, e3, q⟩ => by
  rw [e]
  refine WE.of ⟨.zip p r, ?_, q⟩
  show ((biOf h y).bind fun q => zipI p q) = _
  rw [e2]
  show zipI p r = _
  unfold zipI
  rw [if_pos e3]))
/-! statements -/
theorem WS.bindS {r : Res α} {f : α → Hd → RS} (q : WE r fun x h => WS (f x h) D) : WS (r.bindS ρ f) D := by
  cases r with
  | ok x h => exact q
  | err => exact q
  | fail => exact q
theorem s_exprW (q : WE (evE P e ρ h) fun _ h => D.N ρ h) : WS (evS P (.expr e) ρ h) D := WS.bindS q
theorem s_retW (q : WE (evE P e ρ h) fun x h => WL x h D.R) : WS (evS P (.ret e) ρ h) D := WS.bindS (w_resV q)
theorem s_retNW (q : D.R .non h) : WS (evS P .retN ρ h) D := q
theorem s_asgW {i : Nat} (q : WE (evE P e ρ h) fun x h => WL x h fun t h => D.N (ρ.set i (some t)) h) : WS (evS P (.asg (.nm i) e) ρ h) D := WS.bindS (w_resV q)
theorem s_asgT {g : Tg} (q : WE (evE P e ρ h) fun x h => WL x h fun t h => ∃ ρ', bindT g t ρ = some ρ' ∧ D.N ρ' h) : WS (evS P (.asg g e) ρ h) D := WS.bindS (w_resV (q.imp fun x h q => by
  cases x with
  | v t => obtain ⟨ρ', e, q⟩ := q; show WS (match bindT g t ρ with | some ρ' => RS.nx ρ' h | none => RS.fail) D; rw [e]; exact q
  | l ts => obtain ⟨ρ', e, q⟩ := q; show WS (match bindT g (.ref h.next) ρ with | some ρ' => RS.nx ρ' _ | none => RS.fail) D; rw [e]; exact q))
theorem s_parW {i j : Nat} (q : WE (evE P a ρ h) fun x h => WL x h fun t h => WE (evE P b ρ h) fun y h => WL y h fun u h => D.N ((ρ.set i (some t)).set j (some u)) h) : WS (evS P (.par i j a b) ρ h) D := WS.bindS (w_resV (q.imp fun x h q => by
  cases x <;> exact WS.bindS (w_resV q)))
theorem s_iteW {p q : Ss} (w : WE (evE P c ρ h) fun x h => ∃ k, truth h x = some k ∧ (k = true → WS (evSs P p ρ h) D) ∧ (k = false → WS (evSs P q ρ h) D)) : WS (evS P (.ite c p q) ρ h) D := WS.bindS (WE.bind (w.imp fun x h ⟨k, e, q1, q2⟩ => by
  rw [e]
  cases k with
  | true => exact q1 rfl
  | false => exact q2 rfl))
theorem ss_nilW (q : D.N ρ h) : WS (evSs P .nil ρ h) D := q
theorem ss_consW (q : WS (evS P s ρ h) { D with N := fun ρ h => WS (evSs P ss ρ h) D }) : WS (evSs P (.cons s ss) ρ h) D := by
  show WS (match evS P s ρ h with | .nx ρ h => evSs P ss ρ h | r => r) D
  cases e : evS P s ρ h with
  | nx ρ1 h1 => rw [e] at q; exact q
  | rt t h1 => rw [e] at q; exact q
  | bk ρ1 h1 => rw [e] at q; exact q
  | ct ρ1 h1 => rw [e] at q; exact q
  | err => rw [e] at q; exact q
  | fail => rw [e] at q; exact q
theorem WS.imp {r : RS} {D D' : Ws} (q : WS r D) (n : ∀ ρ h, D.N ρ h → D'.N ρ h) (t : ∀ x h, D.R x h → D'.R x h) (b : ∀ ρ h, D.B ρ h → D'.B ρ h) (c : ∀ ρ h, D.C ρ h → D'.C ρ h) : WS r D' := by
  cases r with
  | nx ρ h => exact n ρ h q
  | rt t0 h => exact t t0 h q
  | bk ρ h => exact b ρ h q
  | ct ρ h => exact c ρ h q
  | err => exact q
  | fail => exact q
/-- a while by a measure -/
theorem s_whlW {p : Ss} (I : Nat → En → Hd → Prop) (step : ∀ n ρ h, I n ρ h → WE (evE P c ρ h) fun x h => ∃ k, truth h x = some k ∧ (k = true → WS (evSs P p ρ h) { D with N := fun ρ h => ∃ m, m < n ∧ I m ρ h, C := fun ρ h => ∃ m, m < n ∧ I m ρ h, B := D.N }) ∧ (k = false → D.N ρ h))
    (n : Nat) (hn : n < P.W) (i : I n ρ h) : WS (evS P (.whl c p) ρ h) D := by
  show WS (whileN (evB P c) (evSs P p) P.W ρ h) D
  have key : ∀ (k n : Nat) (ρ : En) (h : Hd), n < k → I n ρ h → WS (whileN (evB P c) (evSs P p) k ρ h) D := by
    intro k
    induction k with
    | zero => intro n ρ h hn _; omega
    | succ k ih =>
      intro n ρ h hn i
      show WS ((evB P c ρ h).bindS ρ fun b h => if b then match evSs P p ρ h with
        | .nx ρ h => whileN (evB P c) (evSs P p) k ρ h
        | .ct ρ h => whileN (evB P c) (evSs P p) k ρ h
        | .bk ρ h => .nx ρ h
        | r => r
        else .nx ρ h) D
      refine WS.bindS (WE.bind ((step n ρ h i).imp fun x h1 ⟨b, e, q1, q2⟩ => WE.of ⟨b, e, ?_⟩))
      cases b with
      | false => exact q2 rfl
      | true =>
        have q1 := q1 rfl
        rw [if_pos rfl]
        cases e2 : evSs P p ρ h1 with
        | nx ρ2 h2 => rw [e2] at q1; obtain ⟨m, hm, i2⟩ := q1; exact ih m ρ2 h2 (by omega) i2
        | ct ρ2 h2 => rw [e2] at q1; obtain ⟨m, hm, i2⟩ := q1; exact ih m ρ2 h2 (by omega) i2
        | bk ρ2 h2 => rw [e2] at q1; exact q1
        | rt t h2 => rw [e2] at q1; exact q1
        | err => rw [e2] at q1; exact q1
        | fail => rw [e2] at q1; exact q1
  exact key P.W n ρ h hn i
/-- a for over what the walk tells, by an invariant of the turn -/
theorem s_frW {tg : Tg} {it : It} {p : Ss} (I : ItV → Nat → En → Hd → Prop) (M : ItV → Nat) (w : WE (evI P it ρ h) fun v h => M v < P.W ∧ I v 0 ρ h)
    (step : ∀ v n ρ h, n ≤ M v → I v n ρ h → (v.at h n = some none ∧ D.N ρ h) ∨ (n < M v ∧ ∃ t ρ', v.at h n = some (some t) ∧ bindT tg t ρ = some ρ' ∧ WS (evSs P p ρ' h) { D with N := I v (n + 1), C := I v (n + 1), B := D.N })) :
    WS (evS P (.fr tg it p) ρ h) D := by
  refine WS.bindS (w.imp fun v h ⟨hW, i⟩ => ?_)
  have key : ∀ (k n : Nat) (ρ : En) (h : Hd), M v < k + n → n ≤ M v → I v n ρ h → WS (forN v (fun t ρ h => match bindT tg t ρ with
    | some ρ' => evSs P p ρ' h
    | none => .fail) k n ρ h) D := by
    intro k
    induction k with
    | zero => intro n ρ h hk hn i; omega
    | succ k ih =>
      intro n ρ h hk hn i
      unfold forN
      rcases step v n ρ h hn i with ⟨e, q⟩ | ⟨hlt, t, ρ', e, e2, q⟩
      · rw [e]; exact q
      · simp only [e, e2]
        cases e3 : evSs P p ρ' h with
        | nx ρ2 h2 => rw [e3] at q; exact ih (n + 1) ρ2 h2 (by omega) hlt q
        | ct ρ2 h2 => rw [e3] at q; exact ih (n + 1) ρ2 h2 (by omega) hlt q
        | bk ρ2 h2 => rw [e3] at q; exact q
        | rt t h2 => rw [e3] at q; exact q
        | err => rw [e3] at q; exact q
        | fail => rw [e3] at q; exact q
  exact key P.W 0 ρ h (by omega) (Nat.zero_le _) i
/-- a def's run -/
theorem run_w {d : Df} {ts : List T} {Q : T → Hd → Prop} (hl : ts.length = d.ps) (q : WS (evSs P d.body (ts.map some ++ List.replicate (d.n - d.ps) none) h) ⟨fun _ h => Q .non h, Q, fun _ _ => False, fun _ _ => False⟩) : WE (runDf P d ts h) Q := by
  unfold runDf
  rw [if_pos hl]
  cases e : evSs P d.body (ts.map some ++ List.replicate (d.n - d.ps) none) h with
  | nx ρ2 h2 => rw [e] at q; exact q
  | rt t h2 => rw [e] at q; exact q
  | ct ρ2 h2 => rw [e] at q; exact q
  | bk ρ2 h2 => rw [e] at q; exact q
  | err => rw [e] at q; exact q
  | fail => rw [e] at q; exact q
/-- a call of trees without objects that gives such a tree -/
theorem call_w {DL : List (Str × Df)} {glob : Str → Option T} {Wn k : Nat} {f : Str} {d : Df} {ts : List T} {v : T} (e : DL.lookup f = some d) (hp : T.pures ts = true) (hv : v.pure = true) (hl : ts.length = d.ps)
    (q : ∀ n, WS (evSs ⟨callN DL glob Wn k, glob, Wn⟩ d.body (ts.map some ++ List.replicate (d.n - d.ps) none) ⟨n, []⟩) ⟨fun _ _ => T.non = v, fun t _ => t = v, fun _ _ => False, fun _ _ => False⟩) (h : Hd) : callN DL glob Wn (k + 1) f ts h = .ok v h :=
  callN_pure e hp hv (fun n => by
    obtain ⟨x, h', e1, e2⟩ := (run_w (P := ⟨callN DL glob Wn k, glob, Wn⟩) (d := d) (ts := ts) (h := ⟨n, []⟩) (Q := fun t _ => t = v) hl (q n)).get
    exact ⟨h', by rw [e1, e2]⟩) h
theorem c_nilW {Q : Bool → Hd → Prop} (q : Q true h) : WE (evC P .nil ρ h) Q := q
theorem c_oneW {Q : Bool → Hd → Prop} (q : WE (evE P c ρ h) fun x h => ∃ k, truth h x = some k ∧ Q k h) : WE (evC P (.cons c .nil) ρ h) Q := by
  rw [evC_one]
  exact WE.bind (q.imp fun x h q => WE.of q)
/-- a comprehension over rows that stay, its turns leave the heap -/
theorem w_lcA {γ : Type} {elt : E} {tg : Tg} {it : It} {cs : Es} {vs : List Nat} (q : WE (evI P it ρ h) fun v h => ∃ (l : List γ) (enc : γ → T) (f : γ → Option T), v.fix h (l.map enc) ∧ l.length < P.W ∧ P.W ≤ lim ∧
    (∀ x ∈ l, ∃ ρ', bindT tg (enc x) (wipe ρ vs) = some ρ' ∧ WE (evC P cs ρ' h) fun b h1 => (b = true → WE (evE P elt ρ' h1) fun z h2 => WL z h2 fun y h3 => some y = f x ∧ h3 = h) ∧ (b = false → none = f x ∧ h1 = h)) ∧ Q (.l (l.filterMap f)) h) :
    WE (evE P (.lc elt tg it cs vs) ρ h) Q := by
  refine w_lc (q.imp fun v h ⟨l, enc, f, fx, hl, hW, hb, q⟩ => ?_)
  let body : T → Hd → Res (Option T) := fun t h => match bindT tg t (wipe ρ vs) with
    | some ρ' => ((evC P cs ρ' h).bind fun b h => if b then (resV (evE P elt ρ' h)).bind fun y h => .ok (some y) h else .ok none h).dead
    | none => .fail
  have hbody : ∀ x ∈ l, body (enc x) h = .ok (f x) h := fun x hx => by
    obtain ⟨ρ', e, w⟩ := hb x hx
    show (match bindT tg (enc x) (wipe ρ vs) with
    | some ρ' => ((evC P cs ρ' h).bind fun b h => if b then (resV (evE P elt ρ' h)).bind fun y h => .ok (some y) h else .ok none h).dead
    | none => .fail) = _
    rw [e]
    obtain ⟨b, h1, e1, q1, q2⟩ := w.get
    show ((evC P cs ρ' h).bind fun b h => if b then (resV (evE P elt ρ' h)).bind fun y h => Res.ok (some y) h else .ok none h).dead = _
    rw [e1]
    cases b with
    | false =>
      obtain ⟨z, rfl⟩ := q2 rfl
      rw [← z] <;> rfl
    | true =>
      obtain ⟨y, h3, e3, z1, z2⟩ := (w_resV (q1 rfl)).get
      subst z2
      show ((resV (evE P elt ρ' h1)).bind fun y h => Res.ok (some y) h).dead = _
      rw [e3, ← z1] <;> rfl
  -- item by item
  have key : ∀ (k n : Nat) (acc : List T), l.length < k + n → n ≤ l.length → acc.length ≤ n → turns v body k n acc h = .ok (acc ++ (l.drop n).filterMap f) h := by
    intro k
    induction k with
    | zero => intro n acc hk hn _; omega
    | succ k ih =>
      intro n acc hk hn ha
      show (match v.at h n with
        | some none => Res.ok acc h
        | some (some t) => (body t h).bind fun o h' => match o with
          | some y => if acc.length < lim then turns v body k (n + 1) (acc ++ [y]) h' else .fail
          | none => turns v body k (n + 1) acc h'
        | none => .fail) = _
      rw [fx n, List.getElem?_map]
      by_cases hlt : n < l.length
      · rw [List.getElem?_eq_getElem hlt]
        show (body (enc l[n]) h).bind _ = _
        rw [hbody l[n] (List.getElem_mem hlt), List.drop_eq_getElem_cons hlt, List.filterMap_cons]
        show (match f l[n] with
          | some y => if acc.length < lim then turns v body k (n + 1) (acc ++ [y]) h else .fail
          | none => turns v body k (n + 1) acc h) = _
        cases f l[n] with
        | none => exact ih (n + 1) acc (by omega) hlt (by omega)
        | some y =>
          show (if acc.length < lim then turns v body k (n + 1) (acc ++ [y]) h else .fail) = _
          rw [if_pos (by omega), ih (n + 1) (acc ++ [y]) (by omega) hlt (by rw [List.length_append, List.length_singleton]; omega)]
          simp
      · have : n = l.length := by omega
        subst this
        rw [List.getElem?_eq_none (Nat.le_refl _)]
        simp
  have := key P.W 0 [] (by omega) (Nat.zero_le _) (Nat.le_refl _)
  exact WE.eq (by simpa using this) q
end
end Pv
end

section
set_option Elab.async false
set_option linter.all false
set_option maxRecDepth 100000
set_option maxHeartbeats 1000000
namespace Pv
open PySem
/-! ### slices, places -/
theorem cut_take (xs : List T) (i : Int) (h : 0 ≤ i) : cut xs none (some i) = xs.take i.toNat := by
  unfold cut HT.sIx
  simp only [show ¬ i < 0 by omega, if_false, List.drop_zero, Nat.sub_zero]
  rw [List.take_eq_take_iff]
  omega
theorem cut_last (xs : List T) : cut xs none (some (-1)) = xs.dropLast := by
  unfold cut HT.sIx
  simp only [show (-1 : Int) < 0 by omega, if_true, List.drop_zero, Nat.sub_zero]
  rw [List.dropLast_eq_take]
  congr 1
  omega
theorem cut_drop (xs : List T) (i : Int) (h : 0 ≤ i) : cut xs (some i) none = xs.drop i.toNat := by
  unfold cut HT.sIx
  simp only [show ¬ i < 0 by omega, if_false]
  by_cases hl : i.toNat ≤ xs.length
  · rw [Nat.min_eq_left hl]
    exact List.take_of_length_le (by rw [List.length_drop]; omega)
  · rw [Nat.min_eq_right (by omega), List.drop_eq_nil_of_le (Nat.le_refl _), List.drop_eq_nil_of_le (by omega), List.take_nil]
theorem cut_both (xs : List T) (i j : Int) (h : 0 ≤ i) (h2 : 0 ≤ j) : cut xs (some i) (some j) = (xs.take j.toNat).drop i.toNat := by
  unfold cut HT.sIx
  simp only [show ¬ i < 0 by omega, show ¬ j < 0 by omega, if_false]
  apply List.ext_getElem?
  intro n
  rw [List.getElem?_take, List.getElem?_drop, List.getElem?_drop, List.getElem?_take]
  by_cases hn : n < min j.toNat xs.length - min i.toNat xs.length
  · rw [if_pos hn, if_pos (by omega)]
    congr 1
    omega
  · rw [if_neg hn]
    by_cases h3 : i.toNat + n < j.toNat
    · rw [if_pos h3, List.getElem?_eq_none (by omega)]
    · rw [if_neg h3]
theorem atI_nat {α : Type} (xs : List α) (i : Int) (h : 0 ≤ i) : L2.atI xs i = xs[i.toNat]? := by
  unfold L2.atI L2.ixN
  rw [if_pos h]
  by_cases hl : i < xs.length
  · rw [if_pos hl] <;> rfl
  · rw [if_neg hl, List.getElem?_eq_none (by omega)] <;> rfl
theorem atI_last {α : Type} (xs : List α) : L2.atI xs (-1) = xs.getLast? := by
  unfold L2.atI L2.ixN
  rw [if_neg (by omega), List.getLast?_eq_getElem?]
  by_cases hl : -(xs.length : Int) ≤ -1
  · rw [if_pos hl]
    show xs[((-1 : Int) + xs.length).toNat]? = _
    congr 1
    omega
  · rw [if_neg hl]
    have : xs = [] := List.length_eq_zero_iff.mp (by omega)
    subst this
    rfl
theorem ti_take (l : List Int) (n : Nat) : (ti l).take n = ti (l.take n) := by unfold ti; rw [List.map_take]
theorem ti_drop (l : List Int) (n : Nat) : (ti l).drop n = ti (l.drop n) := by unfold ti; rw [List.map_drop]
theorem ti_dropLast (l : List Int) : (ti l).dropLast = ti l.dropLast := by unfold ti; rw [List.map_dropLast]
theorem ti_append (l m : List Int) : ti l ++ ti m = ti (l ++ m) := by unfold ti; rw [List.map_append]
theorem ti_length (l : List Int) : (ti l).length = l.length := by unfold ti; rw [List.length_map]
theorem ti_get (l : List Int) (n : Nat) : (ti l)[n]? = l[n]?.map T.int := by unfold ti; rw [List.getElem?_map]
theorem ti_getLast (l : List Int) : (ti l).getLast? = l.getLast?.map T.int := by unfold ti; rw [List.getLast?_map]
theorem ti_rep (l : List Int) (j : Nat) : (List.replicate j (ti l)).flatten = ti ((List.replicate j l).flatten) := by
  unfold ti
  rw [List.map_flatten, List.map_replicate]
theorem ti_isEmpty (l : List Int) : (ti l).isEmpty = l.isEmpty := by cases l <;> rfl
section
variable {h : Hd} {l m : List Int} {i j : Int}
theorem sl_take (hi : 0 ≤ i) : opSl h (.v (tI l)) none (some i) = some (.v (tI (l.take i.toNat))) := by
  show some (VV.v (.tup (cut (ti l) none (some i)))) = _
  rw [cut_take _ _ hi, ti_take] <;> rfl
theorem sl_drop (hi : 0 ≤ i) : opSl h (.v (tI l)) (some i) none = some (.v (tI (l.drop i.toNat))) := by
  show some (VV.v (.tup (cut (ti l) (some i) none))) = _
  rw [cut_drop _ _ hi, ti_drop] <;> rfl
theorem sl_last : opSl h (.v (tI l)) none (some (-1)) = some (.v (tI l.dropLast)) := by
  show some (VV.v (.tup (cut (ti l) none (some (-1))))) = _
  rw [cut_last, ti_dropLast] <;> rfl
theorem ix_last {x : Int} (e : l.getLast? = some x) : opIx h (.v (tI l)) (.v (.int (-1))) = some (.v (.int x)) := by
  show (L2.atI (ti l) (-1)).map VV.v = _
  rw [atI_last, ti_getLast, e] <;> rfl
theorem ix_nat {x : Int} (hi : 0 ≤ i) (e : l[i.toNat]? = some x) : opIx h (.v (tI l)) (.v (.int i)) = some (.v (.int x)) := by
  show (L2.atI (ti l) i).map VV.v = _
  rw [atI_nat _ _ hi, ti_get, e] <;> rfl
theorem ix_tup {ts : List T} {x : T} (hi : 0 ≤ i) (e : ts[i.toNat]? = some x) : opIx h (.v (.tup ts)) (.v (.int i)) = some (.v x) := by
  show (L2.atI ts i).map VV.v = _
  rw [atI_nat _ _ hi, e] <;> rfl
theorem len_I : op1 .len h (.v (tI l)) = some (.v (.int l.length)) := by
  show some (VV.v (.int (ti l).length)) = _
  rw [ti_length]
theorem mod_I (hj : 0 < j) : opB .mod h (.v (.int i)) (.v (.int j)) = some (.v (.int (i % j))) := by
  show (if 0 < j then some (i % j) else none).map _ = _
  rw [if_pos hj] <;> rfl
theorem div_I (hj : 0 < j) (h2 : j < 1073741824) : opB .fdiv h (.v (.int i)) (.v (.int j)) = some (.v (.int (i / j))) := by
  show (if decide (0 < j) && decide (j < 1073741824) then some (i / j) else none).map _ = _
  rw [decide_eq_true hj, decide_eq_true h2] <;> rfl
theorem mul_I (hj : smallI j = true) : opB .mul h (.v (.int i)) (.v (.int j)) = some (.v (.int (i * j))) := by
  show (if smallI i || smallI j then some (i * j) else none).map _ = _
  rw [hj, Bool.or_true] <;> rfl
theorem mul_I2 (hi : smallI i = true) : opB .mul h (.v (.int i)) (.v (.int j)) = some (.v (.int (i * j))) := by
  show (if smallI i || smallI j then some (i * j) else none).map _ = _
  rw [hi, Bool.true_or] <;> rfl
theorem rep_I (h1 : 1 ≤ i) (h2 : i ≤ 1000) (hl : l.length ≤ 1000) (hn : l ≠ []) : opB .mul h (.v (tI l)) (.v (.int i)) = some (.v (tI ((List.replicate i.toNat l).flatten))) := by
  show (repT (ti l) i).map _ = _
  unfold repT
  have : l.isEmpty = false := by cases l <;> simp_all
  rw [decide_eq_true h1, decide_eq_true h2, ti_length, decide_eq_true hl, ti_isEmpty, this, ti_rep] <;> rfl
theorem cat_I (hl : l.length + m.length ≤ 16777216) : opB .add h (.v (tI l)) (.v (tI m)) = some (.v (tI (l ++ m))) := by
  show (Pv.cat (ti l) (ti m)).map _ = _
  unfold Pv.cat
  rw [ti_length, ti_length, if_pos (by show _ ≤ 16777216; exact hl), ti_append] <;> rfl
theorem eq_I : opC .eq h (.v (tI l)) (.v (tI m)) = some (decide (l = m)) := eq_ints (h := h) l m
theorem eq_i : opC .eq h (.v (.int i)) (.v (.int j)) = some (decide (i = j)) := eq_int (h := h) i j
theorem ne_I : opC .ne h (.v (tI l)) (.v (tI m)) = some (!decide (l = m)) := by
  show (eqD h (.v (tI l)) (.v (tI m))).map not = _
  rw [eq_ints] <;> rfl
theorem ne_i : opC .ne h (.v (.int i)) (.v (.int j)) = some (!decide (i = j)) := by
  show (eqD h (.v (.int i)) (.v (.int j))).map not = _
  rw [eq_int] <;> rfl
theorem in_I {y : VV} {b : Bool} (hi : items h y = some (b, ti l)) : opC .isin h (.v (.int i)) y = some (decide (i ∈ l)) := in_ints i l hi
theorem notin_I {y : VV} {b : Bool} (hi : items h y = some (b, ti l)) : opC .notin h (.v (.int i)) y = some (!decide (i ∈ l)) := by
  show (inD h (.v (.int i)) y).map not = _
  rw [in_ints i l hi] <;> rfl
end
end Pv
end

section
set_option Elab.async false
set_option linter.all false
set_option maxRecDepth 100000
set_option maxHeartbeats 1000000
namespace Las
/-! ### endless texts: a beginning and a round -/
abbrev L := List Int
def word (a b : L) (n : Nat) : Option Int := if n < a.length then a[n]? else b[(n - a.length) % b.length]?
def rep (j : Nat) (b : L) : L := (List.replicate j b).flatten
theorem rep_succ (j : Nat) (b : L) : rep (j + 1) b = b ++ rep j b := by unfold rep; rw [List.replicate_succ, List.flatten_cons]
theorem rep_len (j : Nat) (b : L) : (rep j b).length = j * b.length := by
  induction j with
  | zero => simp [rep]
  | succ j ih => rw [rep_succ, List.length_append, ih, Nat.add_mul, Nat.one_mul, Nat.add_comm]
theorem rep_get {b : L} : ∀ (j n : Nat), n < j * b.length → (rep j b)[n]? = b[n % b.length]?
  | 0, n, h => by omega
  | j + 1, n, h => by
    rw [rep_succ]
    by_cases hn : n < b.length
    · rw [List.getElem?_append_left hn, Nat.mod_eq_of_lt hn]
    · have e : (j + 1) * b.length = j * b.length + b.length := Nat.succ_mul _ _
      rw [List.getElem?_append_right (by omega), rep_get j (n - b.length) (by omega), ← Nat.mod_eq_sub_mod (by omega)]
theorem word_rep {a b : L} {j : Nat} (hj : 1 ≤ j) (hb : b ≠ []) : word a (rep j b) = word a b := by
  funext n
  unfold word
  by_cases hn : n < a.length
  · rw [if_pos hn, if_pos hn]
  · rw [if_neg hn, if_neg hn, rep_len]
    have hp : 0 < b.length := List.length_pos_iff.mpr hb
    have hjb : 0 < j * b.length := Nat.mul_pos hj hp
    rw [rep_get j _ (Nat.mod_lt _ hjb), Nat.mod_mod_of_dvd _ (Nat.dvd_mul_left _ _)]
/-! the least piece of a round -/
def cond (b : L) (m : Nat) : Bool := b.length % m == 0 && decide (rep (b.length / m) (b.take m) = b)
def rootFrom (b : L) : Nat → Nat → Nat
  | 0, m => m
  | k + 1, m => if cond b m then m else rootFrom b k (m + 1)
def rootLen (b : L) : Nat := rootFrom b (b.length - 1) 1
def root (b : L) : L := b.take (rootLen b)
theorem cond_full {b : L} (hb : b ≠ []) : cond b b.length = true := by
  have hp : 0 < b.length := List.length_pos_iff.mpr hb
  unfold cond
  rw [Nat.mod_self, Nat.div_self hp, List.take_length]
  simp [rep]
theorem rootFrom_ok {b : L} (hb : b ≠ []) : ∀ (k m : Nat), 1 ≤ m → m + k = b.length → (∀ j, 1 ≤ j → j < m → cond b j = false) → m ≤ rootFrom b k m ∧ rootFrom b k m ≤ b.length ∧ cond b (rootFrom b k m) = true ∧ ∀ j, 1 ≤ j → j < rootFrom b k m → cond b j = false
  | 0, m, h1, hk, hlt => by
    have : m = b.length := by omega
    refine ⟨Nat.le_refl _, by show m ≤ _; omega, ?_, hlt⟩
    show cond b m = true
    rw [this]; exact cond_full hb
  | k + 1, m, h1, hk, hlt => by
    unfold rootFrom
    by_cases hc : cond b m = true
    · rw [if_pos hc]
      exact ⟨Nat.le_refl _, by omega, hc, hlt⟩
    · rw [if_neg hc]
      obtain ⟨a1, a2, a3, a4⟩ := rootFrom_ok hb k (m + 1) (by omega) (by omega) fun j j1 j2 => by
        by_cases hj : j = m
        · subst hj; simpa using hc
        · exact hlt j j1 (by omega)
      exact ⟨by omega, a2, a3, a4⟩
theorem root_ok {b : L} (hb : b ≠ []) : 1 ≤ rootLen b ∧ rootLen b ≤ b.length ∧ cond b (rootLen b) = true ∧ ∀ j, 1 ≤ j → j < rootLen b → cond b j = false := by
  have hp : 0 < b.length := List.length_pos_iff.mpr hb
  obtain ⟨a1, a2, a3, a4⟩ := rootFrom_ok hb (b.length - 1) 1 (Nat.le_refl _) (by omega) fun j j1 j2 => by omega
  exact ⟨a1, a2, a3, a4⟩
theorem cond_iff {b : L} {m : Nat} : cond b m = true ↔ b.length % m = 0 ∧ rep (b.length / m) (b.take m) = b := by
  unfold cond
  rw [Bool.and_eq_true, beq_iff_eq, decide_eq_true_eq]
theorem root_len {b : L} (hb : b ≠ []) : (root b).length = rootLen b := by
  obtain ⟨h1, h2, _, _⟩ := root_ok hb
  unfold root
  rw [List.length_take]
  omega
theorem root_ne {b : L} (hb : b ≠ []) : root b ≠ [] := by
  intro e
  have := root_len hb
  rw [e] at this
  have := (root_ok hb).1
  simp at *
  omega
theorem word_root {a b : L} (hb : b ≠ []) : word a (root b) = word a b := by
  obtain ⟨h1, h2, h3, _⟩ := root_ok hb
  obtain ⟨c1, c2⟩ := cond_iff.mp h3
  have hj : 1 ≤ b.length / rootLen b := Nat.div_pos h2 h1
  have := word_rep (a := a) (b := root b) hj (root_ne hb)
  unfold root at this ⊢
  rw [c2] at this
  exact this.symm
/-! taking letters of the beginning into the round -/
def rot (c : L) : L := match c.getLast? with
  | some x => x :: c.dropLast
  | none => c
def red : Nat → L → L → L × L
  | 0, a, c => (a, c)
  | k + 1, a, c => if a ≠ [] ∧ a.getLast? = c.getLast? then red k a.dropLast (rot c) else (a, c)
theorem rot_len {c : L} : (rot c).length = c.length := by
  unfold rot
  cases h : c.getLast? with
  | none => rfl
  | some x =>
    have hc : c ≠ [] := by intro e; rw [e] at h; cases h
    have hp : 0 < c.length := List.length_pos_iff.mpr hc
    simp only [List.length_cons, List.length_dropLast]
    omega
theorem rot_ne {c : L} (h : c ≠ []) : rot c ≠ [] := by
  intro e
  have := rot_len (c := c)
  rw [e] at this
  exact h (List.length_eq_zero_iff.mp this.symm)
theorem word_step {a c : L} (ha : a ≠ []) (hc : c ≠ []) (h : a.getLast? = c.getLast?) : word a.dropLast (rot c) = word a c := by
  obtain ⟨a', x, rfl⟩ : ∃ a' x, a = a' ++ [x] := ⟨a.dropLast, a.getLast ha, (List.dropLast_concat_getLast ha).symm⟩
  obtain ⟨c', y, rfl⟩ : ∃ c' y, c = c' ++ [y] := ⟨c.dropLast, c.getLast hc, (List.dropLast_concat_getLast hc).symm⟩
  have hxy : x = y := by simpa using h
  subst hxy
  have hrot : rot (c' ++ [x]) = x :: c' := by unfold rot; simp
  rw [hrot, List.dropLast_concat]
  funext n
  unfold word
  simp only [List.length_append, List.length_cons, List.length_nil, Nat.zero_add]
  by_cases h1 : n < a'.length
  · rw [if_pos h1, if_pos (by omega), List.getElem?_append_left h1]
  · rw [if_neg h1]
    by_cases h2 : n < a'.length + 1
    · rw [if_pos h2]
      have : n = a'.length := by omega
      subst this
      rw [Nat.sub_self, Nat.zero_mod]
      simp
    · rw [if_neg h2]
      have e1 : n - a'.length = (n - (a'.length + 1)) + 1 := by omega
      rw [e1]
      generalize n - (a'.length + 1) = i
      have hp : 0 < c'.length + 1 := Nat.succ_pos _
      have hi : i % (c'.length + 1) < c'.length + 1 := Nat.mod_lt _ hp
      rw [Nat.add_mod]
      by_cases hc0 : c'.length = 0
      · have : c' = [] := List.length_eq_zero_iff.mp hc0
        subst this
        simp [Nat.mod_one]
      · have e2 : 1 % (c'.length + 1) = 1 := Nat.mod_eq_of_lt (by omega)
        rw [e2]
        by_cases h3 : i % (c'.length + 1) = c'.length
        · rw [h3, Nat.mod_self]
          simp
        · rw [Nat.mod_eq_of_lt (by omega), List.getElem?_cons_succ, List.getElem?_append_left (by omega)]
theorem red_ok : ∀ (k : Nat) (a c : L), c ≠ [] → a.length ≤ k → word (red k a c).1 (red k a c).2 = word a c ∧ (red k a c).2.length = c.length ∧ ((red k a c).1 = [] ∨ (red k a c).1.getLast? ≠ (red k a c).2.getLast?)
  | 0, a, c, hc, hk => by
    have : a = [] := List.length_eq_zero_iff.mp (by omega)
    subst this
    exact ⟨rfl, rfl, .inl rfl⟩
  | k + 1, a, c, hc, hk => by
    unfold red
    by_cases h : a ≠ [] ∧ a.getLast? = c.getLast?
    · rw [if_pos h]
      have hl : a.dropLast.length ≤ k := by rw [List.length_dropLast]; omega
      obtain ⟨h1, h2, h3⟩ := red_ok k a.dropLast (rot c) (rot_ne hc) hl
      exact ⟨by rw [h1, word_step h.1 hc h.2], by rw [h2, rot_len], h3⟩
    · rw [if_neg h]
      refine ⟨rfl, rfl, ?_⟩
      by_cases ha : a = []
      · exact .inl ha
      · exact .inr fun e => h ⟨ha, e⟩
def shortIn (a b : L) : L × L := red a.length a (root b)
theorem short_ok {a b : L} (hb : b ≠ []) : word (shortIn a b).1 (shortIn a b).2 = word a b ∧ (shortIn a b).2.length = rootLen b ∧ ((shortIn a b).1 = [] ∨ (shortIn a b).1.getLast? ≠ (shortIn a b).2.getLast?) := by
  obtain ⟨h1, h2, h3⟩ := red_ok a.length a (root b) (root_ne hb) (Nat.le_refl _)
  exact ⟨by rw [shortIn, h1, word_root hb], by rw [shortIn, h2, root_len hb], h3⟩
theorem short_ne {a b : L} (hb : b ≠ []) : (shortIn a b).2 ≠ [] := by
  intro e
  have := (short_ok (a := a) hb).2.1
  rw [e] at this
  have := (root_ok hb).1
  simp at *
  omega
/-! periods -/
def Per (w : Nat → Option Int) (N p : Nat) : Prop := ∀ n, N ≤ n → w (n + p) = w n
theorem Per.gcd {w : Nat → Option Int} {N : Nat} : ∀ (p q : Nat), Per w N p → Per w N q → Per w N (Nat.gcd p q) := by
  intro p
  induction p using Nat.strongRecOn with
  | ind p ih =>
    intro q hp hq
    by_cases h0 : p = 0
    · subst h0; rw [Nat.gcd_zero_left]; exact hq
    · rw [Nat.gcd_rec]
      have hmul : ∀ k, Per w N (p * k) := by
        intro k
        induction k with
        | zero => intro n _; rfl
        | succ k ihk => intro n hn; rw [Nat.mul_succ, ← Nat.add_assoc, hp _ (by omega), ihk n hn]
      have hmod : Per w N (q % p) := fun n hn => by
        have e : n + q % p + p * (q / p) = n + q := by have := Nat.mod_add_div q p; omega
        rw [← hmul (q / p) (n + q % p) (by omega), e, hq n hn]
      exact ih (q % p) (Nat.mod_lt _ (by omega)) p hmod hp
theorem Per.mono {w : Nat → Option Int} {N M p : Nat} (h : Per w N p) (hm : N ≤ M) : Per w M p := fun n hn => h n (by omega)
theorem word_per {a b : L} (hb : b ≠ []) : Per (word a b) a.length b.length := fun n hn => by
  unfold word
  rw [if_neg (by omega), if_neg (by omega)]
  have : n + b.length - a.length = (n - a.length) + b.length := by omega
  rw [this, Nat.add_mod_right]
/-- a period that divides the round is one of the round -/
theorem cond_of_per {a b : L} {N m : Nat} (hb : b ≠ []) (hm : 1 ≤ m) (hd : m ∣ b.length) (h : Per (word a b) N m) : cond b m = true := by
  have hp : 0 < b.length := List.length_pos_iff.mpr hb
  rw [cond_iff]
  refine ⟨Nat.mod_eq_zero_of_dvd hd, ?_⟩
  -- b[i] is the letter far behind
  have far : ∀ i, i < b.length → b[i]? = word a b (a.length + i + b.length * N) := fun i hi => by
    unfold word
    rw [if_neg (by omega)]
    have : a.length + i + b.length * N - a.length = i + b.length * N := by omega
    rw [this, Nat.add_mul_mod_self_left, Nat.mod_eq_of_lt hi]
  have big : ∀ i, N ≤ a.length + i + b.length * N := fun i => by
    have : N ≤ b.length * N := Nat.le_mul_of_pos_left N hp
    omega
  have step : ∀ i, i + m < b.length → b[i + m]? = b[i]? := fun i hi => by
    rw [far (i + m) hi, far i (by omega)]
    have : a.length + (i + m) + b.length * N = (a.length + i + b.length * N) + m := by omega
    rw [this, h _ (big i)]
  have all : ∀ k i, i < m → i + m * k < b.length → b[i + m * k]? = b[i]? := by
    intro k
    induction k with
    | zero => intro i _ _; rfl
    | succ k ih =>
      intro i hi hl
      have e : i + m * (k + 1) = (i + m * k) + m := by rw [Nat.mul_succ]; omega
      rw [e] at hl ⊢
      rw [step _ hl, ih i hi (by omega)]
  obtain ⟨j, hj⟩ := hd
  have hml : m ≤ b.length := Nat.le_of_dvd hp ⟨j, hj⟩
  have hdiv : b.length / m = j := by rw [hj]; exact Nat.mul_div_cancel_left _ (by omega)
  have hlt : (b.take m).length = m := by rw [List.length_take]; omega
  rw [hdiv]
  apply List.ext_getElem?
  intro n
  by_cases hn : n < b.length
  · rw [rep_get j n (by rw [hlt, Nat.mul_comm, ← hj]; exact hn), hlt, List.getElem?_take, if_pos (Nat.mod_lt _ (by omega))]
    have e : n = n % m + m * (n / m) := (Nat.mod_add_div n m).symm
    have := all (n / m) (n % m) (Nat.mod_lt _ (by omega)) (by omega)
    rw [← e] at this
    exact this.symm
  · rw [List.getElem?_eq_none (by rw [rep_len, hlt, Nat.mul_comm, ← hj]; omega), List.getElem?_eq_none (by omega)]
theorem root_least {a b : L} {N m : Nat} (hb : b ≠ []) (hm : 1 ≤ m) (h : Per (word a b) N m) : rootLen b ≤ m := by
  have hp : 0 < b.length := List.length_pos_iff.mpr hb
  have hg := Per.gcd m b.length (h.mono (Nat.le_max_left N a.length)) ((word_per hb).mono (Nat.le_max_right N a.length))
  have hg1 : 1 ≤ Nat.gcd m b.length := Nat.gcd_pos_of_pos_left _ hm
  have hc := cond_of_per hb hg1 (Nat.gcd_dvd_right _ _) hg
  have hle : rootLen b ≤ Nat.gcd m b.length := by
    rcases Nat.lt_or_ge (Nat.gcd m b.length) (rootLen b) with hlt | hge
    · rw [(root_ok hb).2.2.2 _ hg1 hlt] at hc; cases hc
    · exact hge
  exact Nat.le_trans hle (Nat.gcd_le_left _ hm)
theorem root_same {a b a' b' : L} (hb : b ≠ []) (hb' : b' ≠ []) (h : word a b = word a' b') : rootLen b = rootLen b' := by
  have key : ∀ {a b a' b' : L}, b ≠ [] → b' ≠ [] → word a b = word a' b' → rootLen b ≤ rootLen b' := fun {a b a' b'} hb hb' h => by
    have p := word_per (a := a') (root_ne hb')
    rw [word_root hb', root_len hb', ← h] at p
    exact root_least hb (root_ok hb').1 p
  exact Nat.le_antisymm (key hb hb' h) (key hb' hb h.symm)
/-- two short ones of the same text are one -/
theorem uniq {a c a' c' : L} (hc : c ≠ []) (hc' : c' ≠ []) (hl : c.length = c'.length) (h : word a c = word a' c') (r : a = [] ∨ a.getLast? ≠ c.getLast?) (r' : a' = [] ∨ a'.getLast? ≠ c'.getLast?) : a = a' ∧ c = c' := by
  have lastW : ∀ {a c : L}, a ≠ [] → c ≠ [] → a.getLast? = word a c (a.length - 1) ∧ c.getLast? = word a c (a.length - 1 + c.length) := fun {a c} ha hc => by
    have h1 : 0 < a.length := List.length_pos_iff.mpr ha
    have h2 : 0 < c.length := List.length_pos_iff.mpr hc
    refine ⟨?_, ?_⟩
    · unfold word
      rw [if_pos (by omega), List.getLast?_eq_getElem?]
    · unfold word
      rw [if_neg (by omega), List.getLast?_eq_getElem?]
      have : a.length - 1 + c.length - a.length = c.length - 1 := by omega
      rw [this, Nat.mod_eq_of_lt (by omega)]
  have notlt : ∀ {a c a' c' : L}, c ≠ [] → c' ≠ [] → c.length = c'.length → word a c = word a' c' → (a' = [] ∨ a'.getLast? ≠ c'.getLast?) → ¬ a.length < a'.length := fun {a c a' c'} hc hc' hl h r' hlt => by
    have ha' : a' ≠ [] := by intro e; rw [e] at hlt; simp at hlt
    rcases r' with e | r'
    · exact ha' e
    · obtain ⟨e1, e2⟩ := lastW ha' hc'
      apply r'
      rw [e1, e2, ← h, ← hl]
      exact (word_per hc _ (by omega)).symm
  have ll : a.length = a'.length := by
    have h1 := notlt hc hc' hl h r'
    have h2 := notlt hc' hc hl.symm h.symm r
    omega
  constructor
  · apply List.ext_getElem?
    intro n
    by_cases hn : n < a.length
    · have := congrFun h n
      unfold word at this
      rw [if_pos hn, if_pos (by omega)] at this
      exact this
    · rw [List.getElem?_eq_none (by omega), List.getElem?_eq_none (by omega)]
  · apply List.ext_getElem?
    intro n
    by_cases hn : n < c.length
    · have := congrFun h (a.length + n)
      unfold word at this
      rw [if_neg (by omega), if_neg (by omega)] at this
      have e1 : a.length + n - a.length = n := by omega
      have e2 : a.length + n - a'.length = n := by omega
      rw [e1, e2, Nat.mod_eq_of_lt hn, Nat.mod_eq_of_lt (by omega)] at this
      exact this
    · rw [List.getElem?_eq_none (by omega), List.getElem?_eq_none (by omega)]
theorem canon {a b a' b' : L} (hb : b ≠ []) (hb' : b' ≠ []) (h : word a b = word a' b') : shortIn a b = shortIn a' b' := by
  obtain ⟨h1, h2, h3⟩ := short_ok (a := a) hb
  obtain ⟨g1, g2, g3⟩ := short_ok (a := a') hb'
  obtain ⟨e1, e2⟩ := uniq (short_ne hb) (short_ne hb') (by rw [h2, g2, root_same hb hb' h]) (by rw [h1, g1, h]) h3 g3
  exact Prod.ext e1 e2
theorem short_again {a b : L} (hb : b ≠ []) : shortIn (shortIn a b).1 (shortIn a b).2 = shortIn a b := canon (short_ne hb) hb (short_ok hb).1
theorem rot_mem {c : L} {x : Int} (h : x ∈ rot c) : x ∈ c := by
  unfold rot at h
  cases e : c.getLast? with
  | none => rw [e] at h; exact h
  | some y =>
    rw [e] at h
    rcases List.mem_cons.mp h with z | z
    · rw [z]; exact List.mem_of_getLast? e
    · exact List.dropLast_subset _ z
theorem red_mem : ∀ (k : Nat) (a c : L), (∀ x ∈ (red k a c).1, x ∈ a) ∧ (∀ x ∈ (red k a c).2, x ∈ c) ∧ (red k a c).1.length ≤ a.length
  | 0, a, c => ⟨fun _ h => h, fun _ h => h, Nat.le_refl _⟩
  | k + 1, a, c => by
    unfold red
    by_cases h : a ≠ [] ∧ a.getLast? = c.getLast?
    · rw [if_pos h]
      obtain ⟨h1, h2, h3⟩ := red_mem k a.dropLast (rot c)
      exact ⟨fun x hx => List.dropLast_subset _ (h1 x hx), fun x hx => rot_mem (h2 x hx), by rw [List.length_dropLast] at h3; omega⟩
    · rw [if_neg h]
      exact ⟨fun _ h => h, fun _ h => h, Nat.le_refl _⟩
theorem short_mem {a b : L} : (∀ x ∈ (shortIn a b).1, x ∈ a) ∧ (∀ x ∈ (shortIn a b).2, x ∈ b) ∧ (shortIn a b).1.length ≤ a.length := by
  obtain ⟨h1, h2, h3⟩ := red_mem a.length a (root b)
  exact ⟨h1, fun x hx => List.mem_of_mem_take (h2 x hx), h3⟩
end Las
end

section
set_option Elab.async false
set_option linter.all false
set_option maxRecDepth 100000
set_option maxHeartbeats 1000000
namespace Pv
open PySem
/-! ### the heap, written -/
section
variable {P : Prg} {ρ : En} {h : Hd} {D : Ws} {a b e o i : E}
theorem s_setixW (q : WE (evE P e ρ h) fun x h => WL x h fun t h => WE (evE P o ρ h) fun x h => ∃ a, x = .v (.ref a) ∧ WE (evE P i ρ h) fun y h => ∃ k ts j, y = .v (.int k) ∧ h.get a = some (.lst ts) ∧ L2.ixN ts.length k = some j ∧ D.N ρ (h.put a (.lst (ts.set j t)))) : WS (evS P (.setix o i e) ρ h) D := by
  refine WS.bindS (w_resV (q.imp fun x h q => ?_))
  cases x with
  | v t =>
    refine WS.bindS (WE.imp (q : WE _ _) fun x h ⟨a, e, q⟩ => ?_)
    subst e
    refine WS.bindS (WE.imp q fun y h ⟨k, ts, j, e1, e2, e3, q⟩ => ?_)
    subst e1
    simp only [e2, e3]
    exact q
  | l us =>
    refine WS.bindS (WE.imp (q : WE _ _) fun x h ⟨a, e, q⟩ => ?_)
    subst e
    refine WS.bindS (WE.imp q fun y h ⟨k, ts, j, e1, e2, e3, q⟩ => ?_)
    subst e1
    simp only [e2, e3]
    exact q
theorem ix_ref {j : Nat} {ts : List T} {k : Int} {t : T} (e : h.get j = some (.lst ts)) (q : L2.atI ts k = some t) : opIx h (.v (.ref j)) (.v (.int k)) = some (.v t) := by
  show (match (match h.get j with | some o => some (true, o.items) | none => none : Option (Bool × List T)), VV.v (.int k) with | some (_, xs), .v (.int i) => (L2.atI xs i).map VV.v | _, _ => none) = _
  rw [e]
  show (L2.atI ts k).map VV.v = _
  rw [q] <;> rfl
theorem items_ref {j : Nat} {ts : List T} (e : h.get j = some (.lst ts)) : items h (.v (.ref j)) = some (true, ts) := by
  show (match h.get j with | some o => some (true, o.items) | none => none : Option (Bool × List T)) = _
  rw [e] <;> rfl
theorem len_ref {j : Nat} {ts : List T} (e : h.get j = some (.lst ts)) : op1 .len h (.v (.ref j)) = some (.v (.int (ts.length : Nat))) := by
  show (items h (.v (.ref j))).map _ = _
  rw [items_ref e] <;> rfl
theorem put_app {j : Nat} {ts : List T} {t : T} {Q : VV → Hd → Prop} (e : h.get j = some (.lst ts)) (hl : ts.length < lim) (q : Q (.v .non) (h.put j (.lst (ts ++ [t])))) : WE (put1 .append h j t) Q := by
  unfold put1
  simp only [e, if_pos hl]
  exact q
theorem put_pop {j k : Nat} {ts : List T} {t : T} {Q : VV → Hd → Prop} (e : h.get j = some (.lst ts)) (hk : ts[k]? = some t) (hs : k < 1000000) (q : Q (.v t) (h.put j (.lst (ts.eraseIdx k)))) : WE (put1 .pop h j (.int (k : Nat))) Q := by
  have hlt : k < ts.length := by
    rcases Nat.lt_or_ge k ts.length with z | z
    · exact z
    · rw [List.getElem?_eq_none z] at hk; cases hk
  unfold put1
  simp only [e]
  rw [if_pos (by unfold small62; simp; omega)]
  rw [Int.toNat_natCast, hk]
  exact q
theorem put_pop0 {j : Nat} {ts : List T} {t : T} {Q : VV → Hd → Prop} (e : h.get j = some (.lst (ts ++ [t]))) (q : Q (.v t) (h.put j (.lst ts))) : WE (pop0 h (.v (.ref j))) Q := by
  unfold pop0
  simp only [e]
  rw [show (ts ++ [t])[(ts ++ [t]).length - 1]? = some t by simp]
  rw [List.dropLast_concat]
  exact q
end
/-- the objects known stay, but i -/
def Kp (i : Nat) (h h' : Hd) : Prop := h.next ≤ h'.next ∧ ∀ j, j < h.next → j ≠ i → h'.get j = h.get j
theorem Kp.rfl' {i : Nat} {h : Hd} : Kp i h h := ⟨Nat.le_refl _, fun _ _ _ => rfl⟩
theorem Kp.trans {i : Nat} {a b c : Hd} (x : Kp i a b) (y : Kp i b c) : Kp i a c := ⟨Nat.le_trans x.1 y.1, fun j h1 h2 => by rw [y.2 j (Nat.lt_of_lt_of_le h1 x.1) h2, x.2 j h1 h2]⟩
theorem Kp.new {i : Nat} {h : Hd} {o : Ob} : Kp i h (h.new o) := ⟨Nat.le_succ _, fun j h1 _ => by rw [Hd.get_new, if_neg (by omega)]⟩
theorem Kp.put {i : Nat} {h : Hd} {o : Ob} : Kp i h (h.put i o) := ⟨Nat.le_refl _, fun j _ h2 => by rw [Hd.get_put, if_neg (fun e => h2 e.symm)]⟩
/-- a new object is written -/
theorem Kp.put2 {i j : Nat} {a h : Hd} {o : Ob} (x : Kp i a h) (hj : a.next ≤ j) : Kp i a (h.put j o) := ⟨x.1, fun m h1 h2 => by rw [Hd.get_put, if_neg (by omega)]; exact x.2 m h1 h2⟩
theorem get_put_same {h : Hd} {i : Nat} {o u : Ob} (e : h.get i = some u) : (h.put i o).get i = some o := by rw [Hd.get_put, if_pos rfl, e] <;> rfl
theorem get_put_ne {h : Hd} {i j : Nat} {o : Ob} (e : i ≠ j) : (h.put i o).get j = h.get j := by rw [Hd.get_put, if_neg e]
theorem get_new_same {h : Hd} {o : Ob} : (h.new o).get h.next = some o := by rw [Hd.get_new, if_pos rfl]
theorem get_new_ne {h : Hd} {j : Nat} {o : Ob} (e : j < h.next) : (h.new o).get j = h.get j := by rw [Hd.get_new, if_neg (by omega)]
theorem smallI_of {i : Int} (h1 : -18446744073709551616 < i) (h2 : i < 18446744073709551616) : smallI i = true := by
  unfold smallI
  rw [decide_eq_true h1, decide_eq_true h2] <;> rfl
theorem add_i {h : Hd} {i j : Int} : opB .add h (.v (.int i)) (.v (.int j)) = some (.v (.int (i + j))) := rfl
end Pv
end

section
set_option Elab.async false
set_option linter.all false
set_option maxRecDepth 100000
set_option maxHeartbeats 1000000
namespace Pv
open PySem
/-! ### sorted rows of ints -/
theorem up_zip : ∀ {l : List Int}, l.Pairwise (· < ·) → ∀ q ∈ l.zip (l.drop 1), q.1 < q.2
  | [], _, q, hq => by simp at hq
  | [x], _, q, hq => by simp at hq
  | x :: y :: l, h, q, hq => by
    have a := List.pairwise_cons.mp h
    have hq : q ∈ (x, y) :: (y :: l).zip ((y :: l).drop 1) := hq
    rcases List.mem_cons.mp hq with e | hq
    · rw [e]; exact a.1 y List.mem_cons_self
    · exact up_zip a.2 q hq
theorem zip_up : ∀ {l : List Int}, (∀ q ∈ l.zip (l.drop 1), q.1 < q.2) → l.Pairwise (· < ·)
  | [], _ => List.Pairwise.nil
  | [x], _ => List.pairwise_singleton _ _
  | x :: y :: l, h => by
    have ih := zip_up (l := y :: l) fun q hq => h q (List.mem_cons_of_mem _ hq)
    have hxy : x < y := h (x, y) List.mem_cons_self
    refine List.pairwise_cons.mpr ⟨fun z hz => ?_, ih⟩
    rcases List.mem_cons.mp hz with e | hz
    · rw [e]; exact hxy
    · have := (List.pairwise_cons.mp ih).1 z hz; omega
theorem nodup_of_lt {l : List Int} (h : l.Pairwise (· < ·)) : l.Nodup := h.imp fun a => by omega
theorem sort_eq {l m : List Int} (hl : l.Nodup) (hm : m.Nodup) (h : ∀ x, x ∈ l ↔ x ∈ m) : sortI l = sortI m :=
  lt_eq (sortI_lt hl) (sortI_lt hm) fun x => by rw [(sortI_perm l).mem_iff, (sortI_perm m).mem_iff]; exact h x
theorem intsT_ti : ∀ l, intsT (ti l) = some l
  | [] => rfl
  | x :: l => by
    show (intsT (ti l)).map (x :: ·) = _
    rw [intsT_ti l] <;> rfl
theorem sorted_L {h : Hd} {x : VV} {l : List Int} (e : items h x = some (true, ti l)) : op1 .sorted h x = some (.l (ti (sortI l))) := by
  show (match items h x with | some (true, ts) => (match intsT ts with
    | some ns => some (VV.l ((sortI ns).map .int))
    | none => (tupsT ts).map fun l => VV.l ((sortL l).map fun r : List Int => T.tup (r.map .int))) | _ => none) = _
  rw [e]
  show (match intsT (ti l) with
    | some ns => some (VV.l ((sortI ns).map .int))
    | none => (tupsT (ti l)).map fun l => VV.l ((sortL l).map fun r : List Int => T.tup (r.map .int))) = _
  rw [intsT_ti] <;> rfl
theorem rgT_ti (n : Nat) : rgT 0 (n : Int) = ti ((List.range n).map fun i => ((i : Nat) : Int)) := by
  unfold rgT ti
  rw [List.map_map]
  have : ((n : Int) - 0).toNat = n := by omega
  rw [this]
  refine List.map_congr_left fun i _ => ?_
  show T.int (0 + (i : Int)) = T.int (i : Int)
  rw [Int.zero_add]
end Pv
end

section
set_option Elab.async false
set_option linter.all false
set_option maxRecDepth 100000
set_option maxHeartbeats 8000000
namespace K01
open PySem PySem.Spec PyProof.Rows L2 Pv
def top (i : Nat) : Stmt := PySem.Challenge.pw_endlessfingers_k01_whole_lassos_counted.main.body.getD i (.Pass ⟨0, 0, 0, 0⟩)
def nameOf : Stmt → Str
  | .FunctionDef x _ _ _ _ _ _ _ _ _ => x
  | _ => ""
def mk (i : Nat) (N : List Str) : DD := ⟨nameOf (top i), nameOf (top i), defArgs (top i), defBody (top i), defScope (top i), N⟩
def d_is_number : Df := ⟨1, 1, (.cons (.ret (.and (.isi (.slot 0) ["int"]) (.not (.isi (.slot 0) ["bool"]))))
    .nil)⟩
def d_tuple_of : Df := ⟨2, 1, (.cons (.ite (.isi (.slot 0) ["list", "tuple"]) (.cons (.ret (.f1 .tuple (.lc (.call "tuple_of" (.cons (.slot 1) .nil)) (.nm 1) (.seq (.slot 0)) .nil [1])))
    .nil) .nil)
    (.cons (.ret (.slot 0))
    .nil))⟩
def d_is_tuple_of : Df := ⟨2, 2, (.cons (.ret (.and (.isi (.slot 0) ["tuple"]) (.cmp .eq (.f1 .len (.slot 0)) (.slot 1))))
    .nil)⟩
def d_is_letter : Df := ⟨2, 2, (.cons (.ret (.and (.call "is_number" (.cons (.slot 1) .nil)) (.chain .le .le (.int 1) (.slot 1) (.slot 0))))
    .nil)⟩
def d_is_text : Df := ⟨3, 2, (.cons (.ret (.and (.isi (.slot 1) ["tuple"]) (.f1 .all (.lc (.call "is_letter" (.cons (.slot 0) (.cons (.slot 2) .nil))) (.nm 2) (.seq (.slot 1)) .nil [2]))))
    .nil)⟩
def d_is_letters : Df := ⟨4, 2, (.cons (.ret (.and (.call "is_text" (.cons (.slot 0) (.cons (.slot 1) .nil))) (.and (.cmp .ne (.slot 1) (.tup .nil)) (.f1 .all (.lc (.cmp .lt (.slot 2) (.slot 3)) (.tp (.cons (.nm 2) (.cons (.nm 3) .nil))) (.zip (.slot 1) (.slL (.slot 1) (.int 1))) .nil [2, 3])))))
    .nil)⟩
def d_sure_wide_of : Df := ⟨1, 1, (.cons (.ite (.or (.not (.call "is_number" (.cons (.slot 0) .nil))) (.not (.chain .le .le (.int 1) (.slot 0) (.glob "MOST_WIDE")))) (.cons .never
    .nil) .nil)
    .nil)⟩
def d_is_lasso_form : Df := ⟨3, 2, (.cons (.ret (.and (.call "is_tuple_of" (.cons (.slot 1) (.cons (.int 2) .nil))) (.and (.f1 .all (.lc (.call "is_text" (.cons (.slot 0) (.cons (.slot 2) .nil))) (.nm 2) (.seq (.slot 1)) .nil [2])) (.cmp .ne (.ix (.slot 1) (.int 1)) (.tup .nil)))))
    .nil)⟩
def d_sure_lasso : Df := ⟨3, 2, (.cons (.expr (.call "sure_wide_of" (.cons (.slot 0) .nil)))
    (.cons (.asg (.nm 2) (.call "tuple_of" (.cons (.slot 1) .nil)))
    (.cons (.ite (.not (.call "is_lasso_form" (.cons (.slot 0) (.cons (.slot 2) .nil)))) (.cons .never
    .nil) .nil)
    (.cons (.ret (.slot 2))
    .nil))))⟩
def d_sure_many : Df := ⟨2, 2, (.cons (.ite (.or (.not (.call "is_number" (.cons (.slot 0) .nil))) (.not (.chain .le .le (.int 0) (.slot 0) (.slot 1)))) (.cons .never
    .nil) .nil)
    .nil)⟩
def d_shortest_round : Df := ⟨2, 1, (.cons (.fr (.nm 1) (.rng2 (.int 1) (.bin .add (.f1 .len (.slot 0)) (.int 1))) (.cons (.ite (.and (.cmp .eq (.bin .mod (.f1 .len (.slot 0)) (.slot 1)) (.int 0)) (.cmp .eq (.bin .mul (.slU (.slot 0) (.slot 1)) (.bin .fdiv (.f1 .len (.slot 0)) (.slot 1))) (.slot 0))) (.cons (.ret (.slU (.slot 0) (.slot 1)))
    .nil) .nil)
    .nil))
    (.cons (.ret (.slot 0))
    .nil))⟩
def d_short_in : Df := ⟨4, 2, (.cons (.par 2 3 (.slot 0) (.call "shortest_round" (.cons (.slot 1) .nil)))
    (.cons (.whl (.and (.cmp .ne (.slot 2) (.tup .nil)) (.cmp .eq (.ix (.slot 2) (.neg (.int 1))) (.ix (.slot 3) (.neg (.int 1))))) (.cons (.par 2 3 (.slU (.slot 2) (.neg (.int 1))) (.tup (.cons (.ix (.slot 3) (.neg (.int 1))) (.star (.slU (.slot 3) (.neg (.int 1))) .nil))))
    .nil))
    (.cons (.ret (.tup (.cons (.slot 2) (.cons (.slot 3) .nil))))
    .nil)))⟩
def d_lasso_short : Df := ⟨2, 1, (.cons (.asg (.nm 1) (.call "sure_lasso" (.cons (.glob "MOST_WIDE") (.cons (.slot 0) .nil))))
    (.cons (.ret (.call "short_in" (.cons (.ix (.slot 1) (.int 0)) (.cons (.ix (.slot 1) (.int 1)) .nil))))
    .nil))⟩
def d_is_short : Df := ⟨2, 1, (.cons (.asg (.nm 1) (.call "sure_lasso" (.cons (.glob "MOST_WIDE") (.cons (.slot 0) .nil))))
    (.cons (.ret (.cmp .eq (.call "short_in" (.cons (.ix (.slot 1) (.int 0)) (.cons (.ix (.slot 1) (.int 1)) .nil))) (.slot 1)))
    .nil))⟩
def d_same_endless : Df := ⟨4, 2, (.cons (.par 2 3 (.call "sure_lasso" (.cons (.glob "MOST_WIDE") (.cons (.slot 0) .nil))) (.call "sure_lasso" (.cons (.glob "MOST_WIDE") (.cons (.slot 1) .nil))))
    (.cons (.ret (.cmp .eq (.call "short_in" (.cons (.ix (.slot 2) (.int 0)) (.cons (.ix (.slot 2) (.int 1)) .nil))) (.call "short_in" (.cons (.ix (.slot 3) (.int 0)) (.cons (.ix (.slot 3) (.int 1)) .nil)))))
    .nil))⟩
def d_entry_at : Df := ⟨3, 3, (.cons (.ite (.cmp .le (.slot 2) (.f1 .len (.slot 0))) (.cons (.ret (.ix (.slot 0) (.bin .sub (.slot 2) (.int 1))))
    .nil) .nil)
    (.cons (.ret (.ix (.slot 1) (.bin .mod (.bin .sub (.bin .sub (.slot 2) (.f1 .len (.slot 0))) (.int 1)) (.f1 .len (.slot 1)))))
    .nil))⟩
def d_sure_spot : Df := ⟨1, 1, (.cons (.expr (.call "sure_many" (.cons (.slot 0) (.cons (.glob "MOST_PLACE") .nil))))
    (.cons (.ite (.cmp .eq (.slot 0) (.int 0)) (.cons .never
    .nil) .nil)
    .nil))⟩
def d_letter_at : Df := ⟨3, 2, (.cons (.asg (.nm 2) (.call "sure_lasso" (.cons (.glob "MOST_WIDE") (.cons (.slot 0) .nil))))
    (.cons (.expr (.call "sure_spot" (.cons (.slot 1) .nil)))
    (.cons (.ret (.call "entry_at" (.cons (.ix (.slot 2) (.int 0)) (.cons (.ix (.slot 2) (.int 1)) (.cons (.slot 1) .nil)))))
    .nil)))⟩
def d_first_letters : Df := ⟨3, 2, (.cons (.ret (.f1 .tuple (.lc (.call "entry_at" (.cons (.ix (.slot 0) (.int 0)) (.cons (.ix (.slot 0) (.int 1)) (.cons (.slot 2) .nil)))) (.nm 2) (.rng2 (.int 1) (.bin .add (.slot 1) (.int 1))) .nil [2])))
    .nil)⟩
def d_beginning : Df := ⟨3, 2, (.cons (.asg (.nm 2) (.call "sure_lasso" (.cons (.glob "MOST_WIDE") (.cons (.slot 0) .nil))))
    (.cons (.expr (.call "sure_many" (.cons (.slot 1) (.cons (.glob "MOST_BEGINNING") .nil))))
    (.cons (.ret (.call "first_letters" (.cons (.slot 2) (.cons (.slot 1) .nil))))
    .nil)))⟩
def d_moved_on : Df := ⟨6, 2, (.cons (.asg (.nm 2) (.call "sure_lasso" (.cons (.glob "MOST_WIDE") (.cons (.slot 0) .nil))))
    (.cons (.expr (.call "sure_many" (.cons (.slot 1) (.cons (.glob "MOST_PLACE") .nil))))
    (.cons (.asg (.tp (.cons (.nm 4) (.cons (.nm 5) .nil))) (.slot 2))
    (.cons (.ite (.cmp .le (.slot 1) (.f1 .len (.slot 4))) (.cons (.ret (.call "short_in" (.cons (.slL (.slot 4) (.slot 1)) (.cons (.slot 5) .nil))))
    .nil) .nil)
    (.cons (.asg (.nm 3) (.bin .mod (.bin .sub (.slot 1) (.f1 .len (.slot 4))) (.f1 .len (.slot 5))))
    (.cons (.ret (.call "short_in" (.cons (.tup .nil) (.cons (.bin .add (.slL (.slot 5) (.slot 3)) (.slU (.slot 5) (.slot 3))) .nil))))
    .nil))))))⟩
def d_put_ahead : Df := ⟨4, 2, (.cons (.par 2 3 (.call "sure_lasso" (.cons (.glob "MOST_WIDE") (.cons (.slot 1) .nil))) (.call "tuple_of" (.cons (.slot 0) .nil)))
    (.cons (.ite (.not (.call "is_text" (.cons (.glob "MOST_WIDE") (.cons (.slot 3) .nil)))) (.cons .never
    .nil) .nil)
    (.cons (.ret (.call "short_in" (.cons (.bin .add (.slot 3) (.ix (.slot 2) (.int 0))) (.cons (.ix (.slot 2) (.int 1)) .nil))))
    .nil)))⟩
def d_first_apart : Df := ⟨6, 2, (.cons (.par 4 5 (.call "sure_lasso" (.cons (.glob "MOST_WIDE") (.cons (.slot 0) .nil))) (.call "sure_lasso" (.cons (.glob "MOST_WIDE") (.cons (.slot 1) .nil))))
    (.cons (.asg (.nm 2) (.bin .add (.bin .add (.f2 .max (.f1 .len (.ix (.slot 4) (.int 0))) (.f1 .len (.ix (.slot 5) (.int 0)))) (.f1 .len (.ix (.slot 4) (.int 1)))) (.f1 .len (.ix (.slot 5) (.int 1)))))
    (.cons (.fr (.nm 3) (.rng2 (.int 1) (.bin .add (.slot 2) (.int 1))) (.cons (.ite (.cmp .ne (.call "entry_at" (.cons (.ix (.slot 4) (.int 0)) (.cons (.ix (.slot 4) (.int 1)) (.cons (.slot 3) .nil)))) (.call "entry_at" (.cons (.ix (.slot 5) (.int 0)) (.cons (.ix (.slot 5) (.int 1)) (.cons (.slot 3) .nil))))) (.cons (.ret (.slot 3))
    .nil) .nil)
    .nil))
    (.cons (.ret .non)
    .nil))))⟩
def d_endless_letters : Df := ⟨2, 1, (.cons (.asg (.nm 1) (.call "sure_lasso" (.cons (.glob "MOST_WIDE") (.cons (.slot 0) .nil))))
    (.cons (.ret (.tup (.cons (.f1 .tuple (.srtSet (.bin .add (.ix (.slot 1) (.int 0)) (.ix (.slot 1) (.int 1))))) (.cons (.f1 .tuple (.srtSet (.ix (.slot 1) (.int 1)))) .nil))))
    .nil))⟩
def d_sure_letters : Df := ⟨2, 1, (.cons (.asg (.nm 1) (.call "tuple_of" (.cons (.slot 0) .nil)))
    (.cons (.ite (.not (.call "is_letters" (.cons (.glob "MOST_WIDE") (.cons (.slot 1) .nil)))) (.cons .never
    .nil) .nil)
    (.cons (.ret (.slot 1))
    .nil)))⟩
def d_count_in : Df := ⟨3, 2, (.cons (.ret (.f1 .len (.lc (.slot 2) (.nm 2) (.seq (.slot 0)) (.cons (.cmp .isin (.slot 2) (.slot 1)) .nil) [2])))
    .nil)⟩
def d_how_often_to : Df := ⟨9, 3, (.cons (.par 3 4 (.call "sure_lasso" (.cons (.glob "MOST_WIDE") (.cons (.slot 0) .nil))) (.call "sure_letters" (.cons (.slot 1) .nil)))
    (.cons (.expr (.call "sure_many" (.cons (.slot 2) (.cons (.glob "MOST_PLACE") .nil))))
    (.cons (.asg (.tp (.cons (.nm 5) (.cons (.nm 6) .nil))) (.slot 3))
    (.cons (.ite (.cmp .le (.slot 2) (.f1 .len (.slot 5))) (.cons (.ret (.call "count_in" (.cons (.slU (.slot 5) (.slot 2)) (.cons (.slot 4) .nil))))
    .nil) .nil)
    (.cons (.par 7 8 (.bin .fdiv (.bin .sub (.slot 2) (.f1 .len (.slot 5))) (.f1 .len (.slot 6))) (.bin .mod (.bin .sub (.slot 2) (.f1 .len (.slot 5))) (.f1 .len (.slot 6))))
    (.cons (.ret (.bin .add (.bin .add (.call "count_in" (.cons (.slot 5) (.cons (.slot 4) .nil))) (.bin .mul (.slot 7) (.call "count_in" (.cons (.slot 6) (.cons (.slot 4) .nil))))) (.call "count_in" (.cons (.slU (.slot 6) (.slot 8)) (.cons (.slot 4) .nil)))))
    .nil))))))⟩
def d_next_with : Df := ⟨6, 3, (.cons (.par 4 5 (.call "sure_lasso" (.cons (.glob "MOST_WIDE") (.cons (.slot 0) .nil))) (.call "sure_letters" (.cons (.slot 1) .nil)))
    (.cons (.expr (.call "sure_many" (.cons (.slot 2) (.cons (.glob "MOST_PLACE") .nil))))
    (.cons (.fr (.nm 3) (.rng2 (.bin .add (.slot 2) (.int 1)) (.bin .add (.bin .add (.bin .add (.slot 2) (.f1 .len (.ix (.slot 4) (.int 0)))) (.f1 .len (.ix (.slot 4) (.int 1)))) (.int 1))) (.cons (.ite (.cmp .isin (.call "entry_at" (.cons (.ix (.slot 4) (.int 0)) (.cons (.ix (.slot 4) (.int 1)) (.cons (.slot 3) .nil)))) (.slot 5)) (.cons (.ret (.slot 3))
    .nil) .nil)
    .nil))
    (.cons (.ret .non)
    .nil))))⟩
def d__law_box : Df := ⟨3, 2, (.cons (.asg (.nm 2) (.ite (.cmp .lt (.slot 1) (.f1 .len (.slot 0))) (.ix (.slot 0) (.slot 1)) (.int 0)))
    (.cons (.ret (.lst (.cons (.bin .mul (.f1 .abs (.slot 2)) (.f1 .int (.cmp .ge (.f1 .abs (.slot 2)) (.bin .pow (.int 10) (.int 18))))) (.cons (.bin .add (.bin .add (.bin .mod (.f1 .int (.slot 2)) (.int 2305843009213693951)) (.bin .mul (.int 39373) (.slot 1))) (.int 2518099)) (.cons (.int 0) .nil)))))
    .nil))⟩
def d__law_take : Df := ⟨6, 2, (.cons (.ite (.cmp .gt (.ix (.slot 0) (.int 0)) (.int 0)) (.cons (.asg (.nm 5) (.bin .mod (.f1 .int (.ix (.slot 0) (.int 0))) (.slot 1)))
    (.cons (.setix (.slot 0) (.int 0) (.bin .fdiv (.ix (.slot 0) (.int 0)) (.slot 1)))
    (.cons (.ret (.slot 5))
    .nil))) .nil)
    (.cons (.setix (.slot 0) (.int 2) (.bin .add (.ix (.slot 0) (.int 2)) (.int 1)))
    (.cons (.asg (.nm 2) (.bin .mod (.f1 .int (.bin .mul (.bin .add (.ix (.slot 0) (.int 1)) (.bin .mul (.int 48271) (.ix (.slot 0) (.int 2)))) (.bin .add (.int 39373) (.ix (.slot 0) (.int 2))))) (.int 2147483647)))
    (.cons (.asg (.nm 3) (.bin .add (.bin .mod (.f1 .int (.slot 2)) (.int 40009)) (.int 7)))
    (.cons (.asg (.nm 4) (.bin .mod (.f1 .int (.bin .mul (.bin .add (.bin .add (.slot 2) (.ix (.slot 0) (.int 2))) (.bin .fdiv (.ix (.slot 0) (.int 1)) (.int 1000003))) (.slot 3))) (.int 2147483629)))
    (.cons (.ret (.bin .mod (.f1 .int (.bin .fdiv (.bin .mod (.f1 .int (.bin .add (.bin .mul (.slot 4) (.int 48271)) (.slot 2))) (.int 2147483587)) (.int 64))) (.slot 1)))
    .nil))))))⟩
def d__law_cells : Df := ⟨6, 2, (.cons (.asg (.nm 2) (.or (.f1 .list (.slU (.slot 0) (.slot 1))) (.lst (.cons (.int 0) .nil))))
    (.cons (.fr (.tp (.cons (.nm 3) (.cons (.nm 4) .nil))) (.enum (.slLU (.slot 0) (.slot 1) (.int 63))) (.cons (.asg (.nm 5) (.bin .mod (.f1 .int (.slot 3)) (.slot 1)))
    (.cons (.setix (.slot 2) (.slot 5) (.bin .add (.ix (.slot 2) (.slot 5)) (.bin .mul (.slot 4) (.bin .add (.slot 3) (.int 2)))))
    .nil)))
    (.cons (.ret (.slot 2))
    .nil)))⟩
def d__law_same : Df := ⟨4, 2, (.cons (.ite (.isi (.slot 1) ["list", "tuple"]) (.cons (.ite (.or (.cmp .ne (.isi (.slot 0) ["list"]) (.isi (.slot 1) ["list"])) (.cmp .ne (.isi (.slot 0) ["tuple"]) (.isi (.slot 1) ["tuple"]))) (.cons (.ret (.bl false))
    .nil) .nil)
    (.cons (.ret (.and (.cmp .eq (.f1 .len (.slot 0)) (.f1 .len (.slot 1))) (.f1 .all (.lc (.call "_law_same" (.cons (.slot 2) (.cons (.slot 3) .nil))) (.tp (.cons (.nm 2) (.cons (.nm 3) .nil))) (.zip (.slot 0) (.slot 1)) .nil [2, 3]))))
    .nil)) .nil)
    (.cons (.ite (.or (.isN (.slot 1)) (.isi (.slot 1) ["bool", "str"])) (.cons (.ret (.and (.cmp .eq (.slot 0) (.slot 1)) (.and (.cmp .eq (.isi (.slot 0) ["bool"]) (.isi (.slot 1) ["bool"])) (.cmp .eq (.isN (.slot 0)) (.isN (.slot 1))))))
    .nil) .nil)
    (.cons (.ret (.and (.isi (.slot 0) ["int"]) (.and (.not (.isi (.slot 0) ["bool"])) (.cmp .eq (.slot 0) (.slot 1)))))
    .nil)))⟩
def d__law_lists : Df := ⟨2, 1, (.cons (.ret (.ite (.isi (.slot 0) ["list", "tuple"]) (.lc (.call "_law_lists" (.cons (.slot 1) .nil)) (.nm 1) (.seq (.slot 0)) .nil [1]) (.slot 0)))
    .nil)⟩
def d__law_of : Df := ⟨2, 2, (.cons (.ret (.ix (.slot 1) (.call "_law_take" (.cons (.slot 0) (.cons (.f1 .len (.slot 1)) .nil)))))
    .nil)⟩
def d__law_gap_subsets : Df := ⟨4, 1, (.cons (.asg (.nm 1) (.lst (.cons (.tup .nil) .nil)))
    (.cons (.fr (.nm 2) (.seq (.slot 0)) (.cons (.asg (.nm 1) (.bin .add (.slot 1) (.lc (.bin .add (.slot 3) (.tup (.cons (.slot 2) .nil))) (.nm 3) (.seq (.slot 1)) .nil [3])))
    .nil))
    (.cons (.ret (.slot 1))
    .nil)))⟩
def d__law_row : Df := ⟨4, 3, (.cons (.ret (.f1 .tuple (.lc (.bin .add (.int 1) (.call "_law_take" (.cons (.slot 0) (.cons (.slot 1) .nil)))) (.nm 3) (.rng1 (.slot 2)) .nil [3])))
    .nil)⟩
def d__law_lasso : Df := ⟨4, 4, (.cons (.ret (.tup (.cons (.call "_law_row" (.cons (.slot 0) (.cons (.slot 1) (.cons (.call "_law_take" (.cons (.slot 0) (.cons (.bin .add (.slot 2) (.int 1)) .nil))) .nil)))) (.cons (.call "_law_row" (.cons (.slot 0) (.cons (.slot 1) (.cons (.bin .add (.int 1) (.call "_law_take" (.cons (.slot 0) (.cons (.slot 3) .nil)))) .nil)))) .nil))))
    .nil)⟩
def d__law_sets : Df := ⟨2, 1, (.cons (.ret (.f1 .sorted (.lc (.f1 .tuple (.slot 1)) (.nm 1) (.seq (.call "_law_gap_subsets" (.cons (.lsR2 (.int 1) (.bin .add (.slot 0) (.int 1))) .nil))) (.cons (.cmp .ne (.slot 1) (.tup .nil)) .nil) [1])))
    .nil)⟩
def d_law : Df := ⟨20, 1, (.cons (.asg (.nm 1) (.call "_law_box" (.cons (.call "_law_cells" (.cons (.slot 0) (.cons (.int 1) .nil))) (.cons (.int 0) .nil))))
    (.cons (.asg (.tp (.cons (.nm 12) (.cons (.nm 13) .nil))) (.tup (.cons (.call "_law_lasso" (.cons (.slot 1) (.cons (.int 3) (.cons (.int 6) (.cons (.int 5) .nil))))) (.cons (.call "_law_of" (.cons (.slot 1) (.cons (.call "_law_sets" (.cons (.int 3) .nil)) .nil))) .nil))))
    (.cons (.asg (.nm 2) (.bin .add (.bin .mul (.bin .pow (.int 10) (.int 20)) (.bin .add (.int 1) (.call "_law_take" (.cons (.slot 1) (.cons (.int 99) .nil))))) (.call "_law_take" (.cons (.slot 1) (.cons (.bin .pow (.int 10) (.int 6)) .nil)))))
    (.cons (.asg (.tp (.cons (.nm 14) (.cons (.nm 15) .nil))) (.slot 12))
    (.cons (.par 16 17 (.bin .fdiv (.bin .sub (.slot 2) (.f1 .len (.slot 14))) (.f1 .len (.slot 15))) (.bin .mod (.bin .sub (.slot 2) (.f1 .len (.slot 14))) (.f1 .len (.slot 15))))
    (.cons (.asg (.nm 3) (.bin .add (.bin .add (.f1 .len (.lc (.int 1) (.nm 19) (.seq (.slot 14)) (.cons (.cmp .isin (.slot 19) (.slot 13)) .nil) [19])) (.bin .mul (.slot 16) (.f1 .len (.lc (.int 1) (.nm 19) (.seq (.slot 15)) (.cons (.cmp .isin (.slot 19) (.slot 13)) .nil) [19])))) (.f1 .len (.lc (.int 1) (.nm 19) (.seq (.slU (.slot 15) (.slot 17))) (.cons (.cmp .isin (.slot 19) (.slot 13)) .nil) [19]))))
    (.cons (.asg (.nm 4) (.ix (.slot 15) (.bin .mod (.bin .sub (.bin .sub (.slot 2) (.f1 .len (.slot 14))) (.int 1)) (.f1 .len (.slot 15)))))
    (.cons (.asg (.nm 5) (.lst (.cons (.call "how_often_to" (.cons (.slot 12) (.cons (.call "_law_lists" (.cons (.slot 13) .nil)) (.cons (.slot 2) .nil)))) (.cons (.call "letter_at" (.cons (.call "_law_lists" (.cons (.slot 12) .nil)) (.cons (.slot 2) .nil))) (.cons (.call "how_often_to" (.cons (.slot 12) (.cons (.slot 13) (.cons (.bin .sub (.slot 2) (.int 1)) .nil)))) (.cons (.call "how_often_to" (.cons (.slot 12) (.cons (.tup (.cons (.int 1) (.cons (.int 2) (.cons (.int 3) .nil)))) (.cons (.slot 2) .nil)))) .nil))))))
    (.cons (.asg (.nm 5) (.bin .add (.slot 5) (.lst (.cons (.call "how_often_to" (.cons (.slot 12) (.cons (.slot 13) (.cons (.int 0) .nil)))) .nil))))
    (.cons (.ite (.not (.call "_law_same" (.cons (.slot 5) (.cons (.lst (.cons (.slot 3) (.cons (.slot 4) (.cons (.bin .sub (.slot 3) (.f1 .int (.cmp .isin (.slot 4) (.slot 13)))) (.cons (.slot 2) (.cons (.int 0) .nil)))))) .nil)))) (.cons (.ret (.bl false))
    .nil) .nil)
    (.cons (.asg (.nm 6) (.lc (.slot 18) (.nm 18) (.rng2 (.int 1) (.bin .add (.f1 .len (.slot 15)) (.int 1))) (.cons (.cmp .isin (.ix (.slot 15) (.bin .mod (.bin .add (.bin .sub (.bin .sub (.slot 2) (.f1 .len (.slot 14))) (.int 1)) (.slot 18)) (.f1 .len (.slot 15)))) (.slot 13)) .nil) [18]))
    (.cons (.ite (.not (.call "_law_same" (.cons (.call "next_with" (.cons (.slot 12) (.cons (.slot 13) (.cons (.slot 2) .nil)))) (.cons (.ite (.cmp .ne (.slot 6) (.lst .nil)) (.bin .add (.slot 2) (.ix (.slot 6) (.int 0))) .non) .nil)))) (.cons (.ret (.bl false))
    .nil) .nil)
    (.cons (.asg (.nm 7) (.call "moved_on" (.cons (.slot 12) (.cons (.slot 2) .nil))))
    (.cons (.ite (.not (.call "_law_same" (.cons (.lst (.cons (.call "beginning" (.cons (.slot 7) (.cons (.int 12) .nil))) (.cons (.call "is_short" (.cons (.slot 7) .nil)) (.cons (.call "put_ahead" (.cons (.slot 14) (.cons (.tup (.cons (.tup .nil) (.cons (.slot 15) .nil))) .nil))) .nil)))) (.cons (.lst (.cons (.f1 .tuple (.lc (.call "letter_at" (.cons (.slot 12) (.cons (.bin .add (.slot 2) (.slot 19)) .nil))) (.nm 19) (.rng2 (.int 1) (.int 13)) .nil [19])) (.cons (.bl true) (.cons (.call "lasso_short" (.cons (.slot 12) .nil)) .nil)))) .nil)))) (.cons (.ret (.bl false))
    .nil) .nil)
    (.cons (.ite (.or (.cmp .ne (.call "endless_letters" (.cons (.slot 7) .nil)) (.bin .mul (.tup (.cons (.ix (.call "endless_letters" (.cons (.slot 12) .nil)) (.int 1)) .nil)) (.int 2))) (.cmp .ne (.call "endless_letters" (.cons (.slot 12) .nil)) (.tup (.cons (.f1 .tuple (.srtSet (.bin .add (.slot 14) (.slot 15)))) (.cons (.f1 .tuple (.srtSet (.slot 15))) .nil))))) (.cons (.ret (.bl false))
    .nil) .nil)
    (.cons (.asg (.nm 8) (.tup (.cons (.bin .add (.slot 14) (.slU (.slot 15) (.int 1))) (.cons (.bin .add (.slL (.slot 15) (.int 1)) (.slU (.slot 15) (.int 1))) .nil))))
    (.cons (.asg (.nm 9) (.call "_law_take" (.cons (.slot 1) (.cons (.int 12) .nil))))
    (.cons (.asg (.nm 10) (.f1 .list (.call "beginning" (.cons (.slot 12) (.cons (.bin .add (.slot 9) (.int 1)) .nil)))))
    (.cons (.setix (.slot 10) (.slot 9) (.bin .add (.int 1) (.bin .mod (.ix (.slot 10) (.slot 9)) (.int 3))))
    (.cons (.asg (.nm 11) (.call "put_ahead" (.cons (.f1 .tuple (.slot 10)) (.cons (.call "moved_on" (.cons (.slot 12) (.cons (.bin .add (.slot 9) (.int 1)) .nil))) .nil))))
    (.cons (.asg (.nm 5) (.lst (.cons (.call "same_endless" (.cons (.slot 12) (.cons (.slot 8) .nil))) (.cons (.call "first_apart" (.cons (.slot 12) (.cons (.slot 8) .nil))) (.cons (.call "first_apart" (.cons (.slot 12) (.cons (.slot 11) .nil))) (.cons (.call "same_endless" (.cons (.slot 11) (.cons (.slot 12) .nil))) (.cons (.call "first_apart" (.cons (.slot 11) (.cons (.slot 11) .nil))) .nil)))))))
    (.cons (.ret (.call "_law_same" (.cons (.slot 5) (.cons (.lst (.cons (.bl true) (.cons .non (.cons (.bin .add (.slot 9) (.int 1)) (.cons (.bl false) (.cons .non .nil)))))) .nil))))
    .nil))))))))))))))))))))))⟩
def DL : List (Str × Df) := ([("is_number", d_is_number), ("tuple_of", d_tuple_of), ("is_tuple_of", d_is_tuple_of), ("is_letter", d_is_letter), ("is_text", d_is_text), ("is_letters", d_is_letters), ("sure_wide_of", d_sure_wide_of), ("is_lasso_form", d_is_lasso_form), ("sure_lasso", d_sure_lasso), ("sure_many", d_sure_many), ("shortest_round", d_shortest_round), ("short_in", d_short_in), ("lasso_short", d_lasso_short), ("is_short", d_is_short), ("same_endless", d_same_endless), ("entry_at", d_entry_at), ("sure_spot", d_sure_spot), ("letter_at", d_letter_at), ("first_letters", d_first_letters), ("beginning", d_beginning)] : List (Str × Df)) ++ ([("moved_on", d_moved_on), ("put_ahead", d_put_ahead), ("first_apart", d_first_apart), ("endless_letters", d_endless_letters), ("sure_letters", d_sure_letters), ("count_in", d_count_in), ("how_often_to", d_how_often_to), ("next_with", d_next_with), ("_law_box", d__law_box), ("_law_take", d__law_take), ("_law_cells", d__law_cells), ("_law_same", d__law_same), ("_law_lists", d__law_lists), ("_law_of", d__law_of), ("_law_gap_subsets", d__law_gap_subsets), ("_law_row", d__law_row), ("_law_lasso", d__law_lasso), ("_law_sets", d__law_sets), ("law", d_law)] : List (Str × Df))
def dds : List DD := ([mk 3 (["thing"]),
  mk 4 (["thing", "part"]),
  mk 5 (["thing", "many"]),
  mk 8 (["wide", "thing"]),
  mk 9 (["wide", "thing", "own"]),
  mk 10 (["wide", "thing", "near", "far"]),
  mk 14 (["wide"]),
  mk 15 (["wide", "thing", "own"]),
  mk 16 (["wide", "lasso", "own"]),
  mk 17 (["many", "most"]),
  mk 18 (["round_so", "many"]),
  mk 19 (["ahead", "round_so", "front", "back"]),
  mk 20 (["lasso", "own"]),
  mk 21 (["lasso", "own"]),
  mk 22 (["one", "other", "near", "far"]),
  mk 23 (["ahead", "round_so", "place"]),
  mk 24 (["place"]),
  mk 25 (["lasso", "place", "own"]),
  mk 26 (["own", "many", "place"]),
  mk 27 (["lasso", "many", "own"])] : List DD) ++ ([mk 28 (["lasso", "many", "own", "rest", "ahead", "round_so"]),
  mk 29 (["text", "lasso", "own", "told"]),
  mk 30 (["one", "other", "most", "place", "near", "far"]),
  mk 31 (["lasso", "own"]),
  mk 32 (["letters", "own"]),
  mk 33 (["row", "some", "own"]),
  mk 34 (["lasso", "letters", "many", "own", "some", "ahead", "round_so", "rounds", "rest"]),
  mk 35 (["lasso", "letters", "place", "later", "own", "some"]),
  mk 37 (["script", "k", "cell"]),
  mk 38 (["tin", "below", "once", "broad", "twice", "drawn"]),
  mk 39 (["script", "most", "cells", "k", "cell", "spot"]),
  mk 40 (["got", "goal", "mine", "own"]),
  mk 41 (["matter", "own"]),
  mk 42 (["tin", "goods"]),
  mk 43 (["some", "found", "own", "one"]),
  mk 44 (["tin", "wide", "many", "lap"]),
  mk 45 (["tin", "wide", "ahead", "back"]),
  mk 46 (["wide", "own"]),
  mk 47 (["script", "tin", "far", "many", "there", "got", "gaps", "behind", "other", "place", "text", "unlike", "lasso", "letters", "ahead", "back", "whole", "rest", "step", "own"])] : List DD)
def pd : PD := ⟨dds, [("MOST_WIDE", 3), ("MOST_PLACE", 1000000000000000000000000000000), ("MOST_BEGINNING", 2000)], [], ["isinstance", "int", "bool", "list", "tuple", "len", "all", "zip", "range", "max", "sorted", "set", "abs", "enumerate", "str"], DL⟩
def loose : List Str := (["__name__", "Unfit", "is_number", "tuple_of", "is_tuple_of", "MOST_WIDE", "is_letter", "is_text", "is_letters", "MOST_PLACE", "MOST_BEGINNING", "sure_wide_of", "is_lasso_form", "sure_lasso", "sure_many", "shortest_round", "short_in", "lasso_short", "is_short", "same_endless"] : List Str) ++ (["entry_at", "sure_spot", "letter_at", "first_letters", "beginning", "moved_on", "put_ahead", "first_apart", "endless_letters", "sure_letters", "count_in", "how_often_to", "next_with", "_law_box", "_law_take", "_law_cells", "_law_same", "_law_lists", "_law_of", "_law_gap_subsets"] : List Str) ++ (["_law_row", "_law_lasso", "_law_sets"] : List Str)
-- places: law 47, tops 48, row PySem.Challenge.rw_endlessfingers_k01_whole_lassos_counted
theorem good : pd.Good := by
  unfold PD.Good
  kernel_rfl
end K01
end

section
set_option Elab.async false
set_option linter.all false
set_option maxRecDepth 100000
set_option maxHeartbeats 0
namespace K01
open PySem PySem.Spec PyProof.Rows L2 Pv
abbrev R : PySem.W.OpenRow := PySem.W.OpenLaw.row PySem.Challenge.rw_endlessfingers_k01_whole_lassos_counted
abbrev hk : PySem.W.Hook := He.hookD 4 pd.fa pd.fn
def ob (s : PySem.W.SharedT) : He.AlD := He.obsDG 4 pd.fa pd.fn (HandSHeadRun.getT s)
theorem ob_eq (s : PySem.W.SharedT) : ob s = hk.obs s.abs := He.obsDG_eq (HandSHeadRun.getT_eq s)
theorem run (w : World) : HandSHeadRun.RunEq R (PySem.W.view R.prog [47]) hk ob 3000 loose w := by
  intro os
  kernel_rfl
end K01
end

section
set_option Elab.async false
set_option linter.all false
set_option maxRecDepth 100000
set_option maxHeartbeats 0
namespace K01
open PySem PySem.Spec PyProof.Rows L2 Pv
theorem look_law : pd.DL.lookup ("law" : Str) = some d_law := by kernel_rfl
end K01
open PySem PySem.W PySem.Calls PyProof.Rows
theorem K01.holds_of (hl : K01.pd.Law 100000 24) : PySem.Challenge.rw_endlessfingers_k01_whole_lassos_counted.Holds := by
  w_on; o_law
  refine HandSHeadRun.head_any (r := K01.R) (q := view K01.R.prog [47]) (H := K01.hk) (ob := K01.ob) (M := 3000) (loose := K01.loose) (d := HandSHeadRun.topDef K01.R.prog 47) (kwd := []) K01.ob_eq
    (by kernel_rfl) (fun s => by kernel_rfl) K01.run (by kernel_rfl) (by kernel_rfl) (by kernel_rfl) (by rfl) (by first | assumption | decide +kernel) (by decide +kernel) ⟨rfl, rfl, rfl, rfl, rfl, by decide +kernel⟩ ?hw ?hc
  case hw => w_witness2
  case hc => exact Pv.law_walk (l := PySem.Challenge.rw_endlessfingers_k01_whole_lassos_counted) (p := K01.pd) (df := K01.d_law) K01.good K01.look_law hl rfl (by kernel_rfl) (by kernel_rfl) ⟨rfl, by decide, by decide⟩
end

section
set_option Elab.async false
set_option linter.all false
set_option maxRecDepth 100000
set_option maxHeartbeats 1000000
namespace K01
open PySem Pv
theorem lk_is_number : pd.DL.lookup ("is_number" : Str) = some d_is_number := by kernel_rfl
theorem lk_tuple_of : pd.DL.lookup ("tuple_of" : Str) = some d_tuple_of := by kernel_rfl
theorem lk_is_tuple_of : pd.DL.lookup ("is_tuple_of" : Str) = some d_is_tuple_of := by kernel_rfl
theorem lk_is_letter : pd.DL.lookup ("is_letter" : Str) = some d_is_letter := by kernel_rfl
theorem lk_is_text : pd.DL.lookup ("is_text" : Str) = some d_is_text := by kernel_rfl
theorem lk_is_letters : pd.DL.lookup ("is_letters" : Str) = some d_is_letters := by kernel_rfl
theorem lk_sure_wide_of : pd.DL.lookup ("sure_wide_of" : Str) = some d_sure_wide_of := by kernel_rfl
theorem lk_is_lasso_form : pd.DL.lookup ("is_lasso_form" : Str) = some d_is_lasso_form := by kernel_rfl
theorem lk_sure_lasso : pd.DL.lookup ("sure_lasso" : Str) = some d_sure_lasso := by kernel_rfl
theorem lk_sure_many : pd.DL.lookup ("sure_many" : Str) = some d_sure_many := by kernel_rfl
theorem lk_shortest_round : pd.DL.lookup ("shortest_round" : Str) = some d_shortest_round := by kernel_rfl
theorem lk_short_in : pd.DL.lookup ("short_in" : Str) = some d_short_in := by kernel_rfl
theorem lk_lasso_short : pd.DL.lookup ("lasso_short" : Str) = some d_lasso_short := by kernel_rfl
theorem lk_is_short : pd.DL.lookup ("is_short" : Str) = some d_is_short := by kernel_rfl
theorem lk_same_endless : pd.DL.lookup ("same_endless" : Str) = some d_same_endless := by kernel_rfl
theorem lk_entry_at : pd.DL.lookup ("entry_at" : Str) = some d_entry_at := by kernel_rfl
theorem lk_sure_spot : pd.DL.lookup ("sure_spot" : Str) = some d_sure_spot := by kernel_rfl
theorem lk_letter_at : pd.DL.lookup ("letter_at" : Str) = some d_letter_at := by kernel_rfl
theorem lk_first_letters : pd.DL.lookup ("first_letters" : Str) = some d_first_letters := by kernel_rfl
theorem lk_beginning : pd.DL.lookup ("beginning" : Str) = some d_beginning := by kernel_rfl
theorem lk_moved_on : pd.DL.lookup ("moved_on" : Str) = some d_moved_on := by kernel_rfl
theorem lk_put_ahead : pd.DL.lookup ("put_ahead" : Str) = some d_put_ahead := by kernel_rfl
theorem lk_first_apart : pd.DL.lookup ("first_apart" : Str) = some d_first_apart := by kernel_rfl
theorem lk_endless_letters : pd.DL.lookup ("endless_letters" : Str) = some d_endless_letters := by kernel_rfl
theorem lk_sure_letters : pd.DL.lookup ("sure_letters" : Str) = some d_sure_letters := by kernel_rfl
theorem lk_count_in : pd.DL.lookup ("count_in" : Str) = some d_count_in := by kernel_rfl
theorem lk_how_often_to : pd.DL.lookup ("how_often_to" : Str) = some d_how_often_to := by kernel_rfl
theorem lk_next_with : pd.DL.lookup ("next_with" : Str) = some d_next_with := by kernel_rfl
theorem lk__law_box : pd.DL.lookup ("_law_box" : Str) = some d__law_box := by kernel_rfl
theorem lk__law_take : pd.DL.lookup ("_law_take" : Str) = some d__law_take := by kernel_rfl
theorem lk__law_cells : pd.DL.lookup ("_law_cells" : Str) = some d__law_cells := by kernel_rfl
theorem lk__law_same : pd.DL.lookup ("_law_same" : Str) = some d__law_same := by kernel_rfl
theorem lk__law_lists : pd.DL.lookup ("_law_lists" : Str) = some d__law_lists := by kernel_rfl
theorem lk__law_of : pd.DL.lookup ("_law_of" : Str) = some d__law_of := by kernel_rfl
theorem lk__law_gap_subsets : pd.DL.lookup ("_law_gap_subsets" : Str) = some d__law_gap_subsets := by kernel_rfl
theorem lk__law_row : pd.DL.lookup ("_law_row" : Str) = some d__law_row := by kernel_rfl
theorem lk__law_lasso : pd.DL.lookup ("_law_lasso" : Str) = some d__law_lasso := by kernel_rfl
theorem lk__law_sets : pd.DL.lookup ("_law_sets" : Str) = some d__law_sets := by kernel_rfl
theorem lk_law : pd.DL.lookup ("law" : Str) = some d_law := by kernel_rfl
theorem gl_MOST_WIDE : pd.glob ("MOST_WIDE" : Str) = some (.int 3) := by kernel_rfl
theorem gl_MOST_PLACE : pd.glob ("MOST_PLACE" : Str) = some (.int 1000000000000000000000000000000) := by kernel_rfl
theorem gl_MOST_BEGINNING : pd.glob ("MOST_BEGINNING" : Str) = some (.int 2000) := by kernel_rfl
end K01
end

section
set_option Elab.async false
set_option linter.all false
set_option maxRecDepth 100000
set_option maxHeartbeats 1000000
namespace K01
open PySem Pv
abbrev cl (k : Nat) : Str → List T → Hd → Res T := callN pd.DL pd.glob 100000 k
abbrev Pk (k : Nat) : Prg := ⟨callN pd.DL pd.glob 100000 k, pd.glob, 100000⟩
theorem e_num (k : Nat) (i : Int) (h : Hd) : cl (k + 1) "is_number" [.int i] h = .ok (.bl true) h := callN_pure lk_is_number rfl rfl (fun n => ⟨⟨n, []⟩, by kernel_rfl⟩) h
theorem e_numT (k : Nat) (ts : List T) (hp : T.pures ts = true) (h : Hd) : cl (k + 1) "is_number" [.tup ts] h = .ok (.bl false) h := callN_pure lk_is_number (by show (T.pures ts && true) = true; rw [hp]; rfl) rfl (fun n => ⟨⟨n, []⟩, by kernel_rfl⟩) h
theorem e_letter (k : Nat) (w i : Int) (h : Hd) : cl (k + 2) "is_letter" [.int w, .int i] h = .ok (.bl (decide (1 ≤ i) && decide (i ≤ w))) h := by
  refine call_w lk_is_letter rfl rfl rfl (fun n => ?_) h
  dsimp only [d_is_letter, List.map_cons, List.map_nil, List.cons_append, List.nil_append, List.append_nil, Nat.reduceSub, Nat.sub_self, List.replicate]
  repeat' (first | ((with_reducible apply w_slot); rfl) | (with_reducible apply w_non) | (with_reducible apply w_bl) | (with_reducible apply w_int) | (with_reducible apply w_str) | (with_reducible apply w_tup) | (with_reducible apply w_lst) | (with_reducible apply w_nil) | (with_reducible apply w_cons) | (with_reducible apply w_star) | (with_reducible apply w_bin) | (with_reducible apply w_cmp) | (with_reducible apply w_chain) | (with_reducible apply w_isN) | (with_reducible apply w_notN) | (with_reducible apply w_andW) | (with_reducible apply w_orW) | (with_reducible apply w_not) | (with_reducible apply w_neg) | (with_reducible apply w_ite) | (with_reducible apply w_f1) | (with_reducible apply w_f2) | (with_reducible apply w_isi) | (with_reducible apply w_ix) | (with_reducible apply w_slAll) | (with_reducible apply w_slL) | (with_reducible apply w_slU) | (with_reducible apply w_slLU) | (with_reducible apply w_pop0) | (with_reducible apply w_meth1) | (with_reducible apply w_lcA) | (with_reducible apply w_lsR1) | (with_reducible apply w_lsR2) | (with_reducible apply w_lsZ) | (with_reducible apply w_srtSet) | (with_reducible apply i_seqW) | (with_reducible apply i_rng1W) | (with_reducible apply i_rng2W) | (with_reducible apply i_enumW) | (with_reducible apply i_zipW) | (with_reducible apply s_exprW) | (with_reducible apply s_retW) | (with_reducible apply s_retNW) | (with_reducible apply s_asgW) | (with_reducible apply s_asgT) | (with_reducible apply s_parW) | (with_reducible apply s_iteW) | (with_reducible apply ss_nilW) | (with_reducible apply ss_consW) | (with_reducible apply w_call) | (with_reducible apply WL.v) | (with_reducible apply WL.l) | (with_reducible refine WE.eq (e_num _ _ _) ?_) | ((with_reducible apply exW); first | (with_reducible exact eq_i) | (with_reducible exact eq_I) | (with_reducible exact ne_I) | (with_reducible exact ne_i) | (with_reducible exact len_I) | (with_reducible exact sl_last) | (with_reducible exact sl_take (by omega)) | (with_reducible exact sl_drop (by omega)) | (with_reducible exact mod_I (by omega)) | (with_reducible exact div_I (by omega) (by omega)) | (with_reducible exact cat_I (by omega))) | ((with_reducible apply fewW); (focus ((show _ ≤ 16777216); simp; done))) | ((with_reducible apply exW2); rfl) | ((with_reducible apply exW); rfl) | (exfalso; revert hk; decide) | (exfalso; revert hk; simp; done) | intro hk)
  all_goals (show T.bl _ = T.bl _; simp_all <;> omega)
theorem e_wide (k : Nat) (h : Hd) : cl (k + 2) "sure_wide_of" [.int 3] h = .ok .non h := by
  refine call_w lk_sure_wide_of rfl rfl rfl (fun n => ?_) h
  dsimp only [d_sure_wide_of, List.map_cons, List.map_nil, List.cons_append, List.nil_append, List.append_nil, Nat.reduceSub, Nat.sub_self, List.replicate]
  repeat' (first | ((with_reducible apply w_slot); rfl) | (with_reducible apply w_non) | (with_reducible apply w_bl) | (with_reducible apply w_int) | (with_reducible apply w_str) | (with_reducible apply w_tup) | (with_reducible apply w_lst) | (with_reducible apply w_nil) | (with_reducible apply w_cons) | (with_reducible apply w_star) | (with_reducible apply w_bin) | (with_reducible apply w_cmp) | (with_reducible apply w_chain) | (with_reducible apply w_isN) | (with_reducible apply w_notN) | (with_reducible apply w_andW) | (with_reducible apply w_orW) | (with_reducible apply w_not) | (with_reducible apply w_neg) | (with_reducible apply w_ite) | (with_reducible apply w_f1) | (with_reducible apply w_f2) | (with_reducible apply w_isi) | (with_reducible apply w_ix) | (with_reducible apply w_slAll) | (with_reducible apply w_slL) | (with_reducible apply w_slU) | (with_reducible apply w_slLU) | (with_reducible apply w_pop0) | (with_reducible apply w_meth1) | (with_reducible apply w_lcA) | (with_reducible apply w_lsR1) | (with_reducible apply w_lsR2) | (with_reducible apply w_lsZ) | (with_reducible apply w_srtSet) | (with_reducible apply i_seqW) | (with_reducible apply i_rng1W) | (with_reducible apply i_rng2W) | (with_reducible apply i_enumW) | (with_reducible apply i_zipW) | (with_reducible apply s_exprW) | (with_reducible apply s_retW) | (with_reducible apply s_retNW) | (with_reducible apply s_asgW) | (with_reducible apply s_asgT) | (with_reducible apply s_parW) | (with_reducible apply s_iteW) | (with_reducible apply ss_nilW) | (with_reducible apply ss_consW) | (with_reducible apply w_call) | (with_reducible apply WL.v) | (with_reducible apply WL.l) | (with_reducible refine WE.eq (e_num _ _ _) ?_) | (with_reducible refine w_glob gl_MOST_WIDE ?_) | ((with_reducible apply exW); first | (with_reducible exact eq_i) | (with_reducible exact eq_I) | (with_reducible exact ne_I) | (with_reducible exact ne_i) | (with_reducible exact len_I) | (with_reducible exact sl_last) | (with_reducible exact sl_take (by omega)) | (with_reducible exact sl_drop (by omega)) | (with_reducible exact mod_I (by omega)) | (with_reducible exact div_I (by omega) (by omega)) | (with_reducible exact cat_I (by omega))) | ((with_reducible apply fewW); (focus ((show _ ≤ 16777216); simp; done))) | ((with_reducible apply exW2); rfl) | ((with_reducible apply exW); rfl) | (exfalso; revert hk; decide) | (exfalso; revert hk; simp; done) | intro hk)
  all_goals rfl
theorem e_tup2 (k : Nat) (ts : List T) (m : Int) (hp : T.pures ts = true) (h : Hd) : cl (k + 1) "is_tuple_of" [.tup ts, .int m] h = .ok (.bl (decide ((ts.length : Int) = m))) h := by
  refine call_w lk_is_tuple_of (by show (T.pures ts && true) = true; rw [hp]; rfl) rfl rfl (fun n => ?_) h
  dsimp only [d_is_tuple_of, List.map_cons, List.map_nil, List.cons_append, List.nil_append, List.append_nil, Nat.reduceSub, Nat.sub_self, List.replicate]
  repeat' (first | ((with_reducible apply w_slot); rfl) | (with_reducible apply w_non) | (with_reducible apply w_bl) | (with_reducible apply w_int) | (with_reducible apply w_str) | (with_reducible apply w_tup) | (with_reducible apply w_lst) | (with_reducible apply w_nil) | (with_reducible apply w_cons) | (with_reducible apply w_star) | (with_reducible apply w_bin) | (with_reducible apply w_cmp) | (with_reducible apply w_chain) | (with_reducible apply w_isN) | (with_reducible apply w_notN) | (with_reducible apply w_andW) | (with_reducible apply w_orW) | (with_reducible apply w_not) | (with_reducible apply w_neg) | (with_reducible apply w_ite) | (with_reducible apply w_f1) | (with_reducible apply w_f2) | (with_reducible apply w_isi) | (with_reducible apply w_ix) | (with_reducible apply w_slAll) | (with_reducible apply w_slL) | (with_reducible apply w_slU) | (with_reducible apply w_slLU) | (with_reducible apply w_pop0) | (with_reducible apply w_meth1) | (with_reducible apply w_lcA) | (with_reducible apply w_lsR1) | (with_reducible apply w_lsR2) | (with_reducible apply w_lsZ) | (with_reducible apply w_srtSet) | (with_reducible apply i_seqW) | (with_reducible apply i_rng1W) | (with_reducible apply i_rng2W) | (with_reducible apply i_enumW) | (with_reducible apply i_zipW) | (with_reducible apply s_exprW) | (with_reducible apply s_retW) | (with_reducible apply s_retNW) | (with_reducible apply s_asgW) | (with_reducible apply s_asgT) | (with_reducible apply s_parW) | (with_reducible apply s_iteW) | (with_reducible apply ss_nilW) | (with_reducible apply ss_consW) | (with_reducible apply w_call) | (with_reducible apply WL.v) | (with_reducible apply WL.l) | ((with_reducible apply exW); first | (with_reducible exact eq_i) | (with_reducible exact eq_I) | (with_reducible exact ne_I) | (with_reducible exact ne_i) | (with_reducible exact len_I) | (with_reducible exact sl_last) | (with_reducible exact sl_take (by omega)) | (with_reducible exact sl_drop (by omega)) | (with_reducible exact mod_I (by omega)) | (with_reducible exact div_I (by omega) (by omega)) | (with_reducible exact cat_I (by omega))) | ((with_reducible apply fewW); (focus ((show _ ≤ 16777216); simp; done))) | ((with_reducible apply exW2); rfl) | ((with_reducible apply exW); rfl) | (exfalso; revert hk; decide) | (exfalso; revert hk; simp; done) | intro hk)
  all_goals (show T.bl _ = T.bl _; simp_all [PyData.eqv] <;> rfl)
theorem e_tup2n (k : Nat) (i m : Int) (h : Hd) : cl (k + 1) "is_tuple_of" [.int i, .int m] h = .ok (.bl false) h := by
  refine call_w lk_is_tuple_of rfl rfl rfl (fun n => ?_) h
  dsimp only [d_is_tuple_of, List.map_cons, List.map_nil, List.cons_append, List.nil_append, List.append_nil, Nat.reduceSub, Nat.sub_self, List.replicate]
  repeat' (first | ((with_reducible apply w_slot); rfl) | (with_reducible apply w_non) | (with_reducible apply w_bl) | (with_reducible apply w_int) | (with_reducible apply w_str) | (with_reducible apply w_tup) | (with_reducible apply w_lst) | (with_reducible apply w_nil) | (with_reducible apply w_cons) | (with_reducible apply w_star) | (with_reducible apply w_bin) | (with_reducible apply w_cmp) | (with_reducible apply w_chain) | (with_reducible apply w_isN) | (with_reducible apply w_notN) | (with_reducible apply w_andW) | (with_reducible apply w_orW) | (with_reducible apply w_not) | (with_reducible apply w_neg) | (with_reducible apply w_ite) | (with_reducible apply w_f1) | (with_reducible apply w_f2) | (with_reducible apply w_isi) | (with_reducible apply w_ix) | (with_reducible apply w_slAll) | (with_reducible apply w_slL) | (with_reducible apply w_slU) | (with_reducible apply w_slLU) | (with_reducible apply w_pop0) | (with_reducible apply w_meth1) | (with_reducible apply w_lcA) | (with_reducible apply w_lsR1) | (with_reducible apply w_lsR2) | (with_reducible apply w_lsZ) | (with_reducible apply w_srtSet) | (with_reducible apply i_seqW) | (with_reducible apply i_rng1W) | (with_reducible apply i_rng2W) | (with_reducible apply i_enumW) | (with_reducible apply i_zipW) | (with_reducible apply s_exprW) | (with_reducible apply s_retW) | (with_reducible apply s_retNW) | (with_reducible apply s_asgW) | (with_reducible apply s_asgT) | (with_reducible apply s_parW) | (with_reducible apply s_iteW) | (with_reducible apply ss_nilW) | (with_reducible apply ss_consW) | (with_reducible apply w_call) | (with_reducible apply WL.v) | (with_reducible apply WL.l) | ((with_reducible apply exW); first | (with_reducible exact eq_i) | (with_reducible exact eq_I) | (with_reducible exact ne_I) | (with_reducible exact ne_i) | (with_reducible exact len_I) | (with_reducible exact sl_last) | (with_reducible exact sl_take (by omega)) | (with_reducible exact sl_drop (by omega)) | (with_reducible exact mod_I (by omega)) | (with_reducible exact div_I (by omega) (by omega)) | (with_reducible exact cat_I (by omega))) | ((with_reducible apply fewW); (focus ((show _ ≤ 16777216); simp; done))) | ((with_reducible apply exW2); rfl) | ((with_reducible apply exW); rfl) | (exfalso; revert hk; decide) | (exfalso; revert hk; simp; done) | intro hk)
  all_goals (show T.bl _ = T.bl _; simp_all)
theorem e_tup2z (k : Nat) (m : Int) (h : Hd) : cl (k + 1) "is_tuple_of" [.non, .int m] h = .ok (.bl false) h := by
  refine call_w lk_is_tuple_of rfl rfl rfl (fun n => ?_) h
  dsimp only [d_is_tuple_of, List.map_cons, List.map_nil, List.cons_append, List.nil_append, List.append_nil, Nat.reduceSub, Nat.sub_self, List.replicate]
  repeat' (first | ((with_reducible apply w_slot); rfl) | (with_reducible apply w_non) | (with_reducible apply w_bl) | (with_reducible apply w_int) | (with_reducible apply w_str) | (with_reducible apply w_tup) | (with_reducible apply w_lst) | (with_reducible apply w_nil) | (with_reducible apply w_cons) | (with_reducible apply w_star) | (with_reducible apply w_bin) | (with_reducible apply w_cmp) | (with_reducible apply w_chain) | (with_reducible apply w_isN) | (with_reducible apply w_notN) | (with_reducible apply w_andW) | (with_reducible apply w_orW) | (with_reducible apply w_not) | (with_reducible apply w_neg) | (with_reducible apply w_ite) | (with_reducible apply w_f1) | (with_reducible apply w_f2) | (with_reducible apply w_isi) | (with_reducible apply w_ix) | (with_reducible apply w_slAll) | (with_reducible apply w_slL) | (with_reducible apply w_slU) | (with_reducible apply w_slLU) | (with_reducible apply w_pop0) | (with_reducible apply w_meth1) | (with_reducible apply w_lcA) | (with_reducible apply w_lsR1) | (with_reducible apply w_lsR2) | (with_reducible apply w_lsZ) | (with_reducible apply w_srtSet) | (with_reducible apply i_seqW) | (with_reducible apply i_rng1W) | (with_reducible apply i_rng2W) | (with_reducible apply i_enumW) | (with_reducible apply i_zipW) | (with_reducible apply s_exprW) | (with_reducible apply s_retW) | (with_reducible apply s_retNW) | (with_reducible apply s_asgW) | (with_reducible apply s_asgT) | (with_reducible apply s_parW) | (with_reducible apply s_iteW) | (with_reducible apply ss_nilW) | (with_reducible apply ss_consW) | (with_reducible apply w_call) | (with_reducible apply WL.v) | (with_reducible apply WL.l) | ((with_reducible apply exW); first | (with_reducible exact eq_i) | (with_reducible exact eq_I) | (with_reducible exact ne_I) | (with_reducible exact ne_i) | (with_reducible exact len_I) | (with_reducible exact sl_last) | (with_reducible exact sl_take (by omega)) | (with_reducible exact sl_drop (by omega)) | (with_reducible exact mod_I (by omega)) | (with_reducible exact div_I (by omega) (by omega)) | (with_reducible exact cat_I (by omega))) | ((with_reducible apply fewW); (focus ((show _ ≤ 16777216); simp; done))) | ((with_reducible apply exW2); rfl) | ((with_reducible apply exW); rfl) | (exfalso; revert hk; decide) | (exfalso; revert hk; simp; done) | intro hk)
  all_goals (show T.bl _ = T.bl _; simp_all)
/-- all(..) over what gives truths -/
theorem bls_map {α : Type} (f : α → Bool) : ∀ l : List α, bls (l.map fun x => T.bl (f x)) = some (l.map f)
  | [] => rfl
  | x :: l => by
    show (bls (l.map fun x => T.bl (f x))).map (f x :: ·) = _
    rw [bls_map f l] <;> rfl
theorem filterMap_some {α β : Type} (f : α → β) : ∀ l : List α, l.filterMap (fun x => some (f x)) = l.map f
  | [] => rfl
  | x :: l => by rw [List.filterMap_cons, filterMap_some f l] <;> rfl
theorem e_text (k : Nat) (w : Int) (l : List Int) (hl : l.length ≤ 1000) (h : Hd) : cl (k + 3) "is_text" [.int w, tI l] h = .ok (.bl (l.all fun i => decide (1 ≤ i) && decide (i ≤ w))) h := by
  refine call_w lk_is_text (by show (T.pures (ti l) && true) = true; rw [pures_ti]; rfl) rfl rfl (fun n => ?_) h
  dsimp only [d_is_text, List.map_cons, List.map_nil, List.cons_append, List.nil_append, List.append_nil, Nat.reduceSub, Nat.sub_self, List.replicate]
  repeat' (first | ((with_reducible apply w_slot); rfl) | (with_reducible apply w_non) | (with_reducible apply w_bl) | (with_reducible apply w_int) | (with_reducible apply w_str) | (with_reducible apply w_tup) | (with_reducible apply w_lst) | (with_reducible apply w_nil) | (with_reducible apply w_cons) | (with_reducible apply w_star) | (with_reducible apply w_bin) | (with_reducible apply w_cmp) | (with_reducible apply w_chain) | (with_reducible apply w_isN) | (with_reducible apply w_notN) | (with_reducible apply w_andW) | (with_reducible apply w_orW) | (with_reducible apply w_not) | (with_reducible apply w_neg) | (with_reducible apply w_ite) | (with_reducible apply w_f1) | (with_reducible apply w_f2) | (with_reducible apply w_isi) | (with_reducible apply w_ix) | (with_reducible apply w_slAll) | (with_reducible apply w_slL) | (with_reducible apply w_slU) | (with_reducible apply w_slLU) | (with_reducible apply w_pop0) | (with_reducible apply w_meth1) | (with_reducible apply w_lcA) | (with_reducible apply w_lsR1) | (with_reducible apply w_lsR2) | (with_reducible apply w_lsZ) | (with_reducible apply w_srtSet) | (with_reducible apply i_seqW) | (with_reducible apply i_rng1W) | (with_reducible apply i_rng2W) | (with_reducible apply i_enumW) | (with_reducible apply i_zipW) | (with_reducible apply s_exprW) | (with_reducible apply s_retW) | (with_reducible apply s_retNW) | (with_reducible apply s_asgW) | (with_reducible apply s_asgT) | (with_reducible apply s_parW) | (with_reducible apply s_iteW) | (with_reducible apply ss_nilW) | (with_reducible apply ss_consW) | (with_reducible apply w_call) | (with_reducible apply WL.v) | (with_reducible apply WL.l) | ((with_reducible apply exW); first | (with_reducible exact eq_i) | (with_reducible exact eq_I) | (with_reducible exact ne_I) | (with_reducible exact ne_i) | (with_reducible exact len_I) | (with_reducible exact sl_last) | (with_reducible exact sl_take (by omega)) | (with_reducible exact sl_drop (by omega)) | (with_reducible exact mod_I (by omega)) | (with_reducible exact div_I (by omega) (by omega)) | (with_reducible exact cat_I (by omega))) | ((with_reducible apply fewW); (focus ((show _ ≤ 16777216); simp; done))) | ((with_reducible apply exW2); rfl) | ((with_reducible apply exW); rfl) | (exfalso; revert hk; decide) | (exfalso; revert hk; simp; done) | intro hk)
  all_goals
    refine ⟨l, T.int, fun i => some (.bl (decide (1 ≤ i) && decide (i ≤ w))), fix_tp, by show l.length < 100000; omega, by show 100000 ≤ 16777216; omega, fun i _ => ⟨_, rfl, c_nilW ⟨fun _ => by
        repeat' (first | ((with_reducible apply w_slot); rfl) | (with_reducible apply w_non) | (with_reducible apply w_bl) | (with_reducible apply w_int) | (with_reducible apply w_str) | (with_reducible apply w_tup) | (with_reducible apply w_lst) | (with_reducible apply w_nil) | (with_reducible apply w_cons) | (with_reducible apply w_star) | (with_reducible apply w_bin) | (with_reducible apply w_cmp) | (with_reducible apply w_chain) | (with_reducible apply w_isN) | (with_reducible apply w_notN) | (with_reducible apply w_andW) | (with_reducible apply w_orW) | (with_reducible apply w_not) | (with_reducible apply w_neg) | (with_reducible apply w_ite) | (with_reducible apply w_f1) | (with_reducible apply w_f2) | (with_reducible apply w_isi) | (with_reducible apply w_ix) | (with_reducible apply w_slAll) | (with_reducible apply w_slL) | (with_reducible apply w_slU) | (with_reducible apply w_slLU) | (with_reducible apply w_pop0) | (with_reducible apply w_meth1) | (with_reducible apply w_lcA) | (with_reducible apply w_lsR1) | (with_reducible apply w_lsR2) | (with_reducible apply w_lsZ) | (with_reducible apply w_srtSet) | (with_reducible apply i_seqW) | (with_reducible apply i_rng1W) | (with_reducible apply i_rng2W) | (with_reducible apply i_enumW) | (with_reducible apply i_zipW) | (with_reducible apply s_exprW) | (with_reducible apply s_retW) | (with_reducible apply s_retNW) | (with_reducible apply s_asgW) | (with_reducible apply s_asgT) | (with_reducible apply s_parW) | (with_reducible apply s_iteW) | (with_reducible apply ss_nilW) | (with_reducible apply ss_consW) | (with_reducible apply w_call) | (with_reducible apply WL.v) | (with_reducible apply WL.l) | (with_reducible refine WE.eq (e_letter k _ _ _) ?_) | ((with_reducible apply exW); first | (with_reducible exact eq_i) | (with_reducible exact eq_I) | (with_reducible exact ne_I) | (with_reducible exact ne_i) | (with_reducible exact len_I) | (with_reducible exact sl_last) | (with_reducible exact sl_take (by omega)) | (with_reducible exact sl_drop (by omega)) | (with_reducible exact mod_I (by omega)) | (with_reducible exact div_I (by omega) (by omega)) | (with_reducible exact cat_I (by omega))) | ((with_reducible apply fewW); (focus ((show _ ≤ 16777216); simp; done))) | ((with_reducible apply exW2); rfl) | ((with_reducible apply exW); rfl) | (exfalso; revert hk; decide) | (exfalso; revert hk; simp; done) | intro hk)
        all_goals exact ⟨rfl, rfl⟩, fun z => by cases z⟩⟩, by
        rw [filterMap_some]
        refine exW (by show (bls _).map _ = _; rw [bls_map] <;> rfl) ?_
        show T.bl _ = T.bl _
        simp [List.all_map]⟩
end K01
end

section
set_option Elab.async false
set_option linter.all false
set_option maxRecDepth 100000
set_option maxHeartbeats 1000000
namespace K01
open PySem Pv
theorem pur (l : List Int) : (tI l).pure = true := pures_ti l
theorem pur1 (l : List Int) : T.pures [tI l] = true := by show (T.pures (ti l) && true) = true; rw [pures_ti]; rfl
/-- the least piece of a round -/
theorem e_root (k : Nat) (b : List Int) (hb : b ≠ []) (hl : b.length ≤ 900) (h : Hd) : cl (k + 1) "shortest_round" [tI b] h = .ok (tI (Las.root b)) h := by
  refine call_w lk_shortest_round (pur1 b) (pur _) rfl (fun n => ?_) h
  dsimp only [d_shortest_round, List.map_cons, List.map_nil, List.cons_append, List.nil_append, List.append_nil, Nat.reduceSub, Nat.sub_self, List.replicate]
  with_reducible refine ss_consW ?_
  have hp : 0 < b.length := List.length_pos_iff.mpr hb
  with_reducible refine s_frW (fun v n ρ h => v = .rng 1 b.length ∧ (∃ o, ρ = [some (tI b), o]) ∧ ∀ j, 1 ≤ j → j ≤ n → Las.cond b j = false) (fun v => b.length) ?_ ?_
  · skip
    show WE (evI (Pk k) _ _ _) _
    with_reducible refine i_rng2W ?_
    with_reducible apply w_int
    with_reducible apply w_bin
    with_reducible apply w_f1
    with_reducible apply w_slot
    · rfl
    with_reducible apply exW
    · exact len_I
    with_reducible apply w_int
    with_reducible apply exW
    · rfl

    refine ⟨1, (b.length : Int) + 1, rfl, ?_, ?_, ?_, ?_, ⟨_, rfl⟩, fun j h1 h2 => by omega⟩
    · unfold small62
      simp
    · unfold small62
      simp only [Bool.and_eq_true, decide_eq_true_eq]
      omega
    · show b.length < 100000
      omega
    · congr 1
      omega
  · rintro v m ρ h1 hm ⟨rfl, ⟨o, rfl⟩, hc⟩
    by_cases hlt : m < b.length
    · refine .inr ⟨hlt, .int (1 + (m : Nat)), [some (tI b), some (.int (1 + (m : Nat)))], ?_, rfl, ?_⟩
      · show some (if m < b.length then some (T.int (1 + m)) else none) = _
        rw [if_pos hlt]
      · have e1 : (1 + (m : Int)).toNat = m + 1 := by omega
        have hmod : ((b.length : Int) % (1 + (m : Nat)) = 0) ↔ b.length % (m + 1) = 0 := by
          have : ((b.length % (m + 1) : Nat) : Int) = (b.length : Int) % (1 + (m : Nat)) := by
            rw [Int.natCast_emod]
            congr 1
            omega
          omega
        have hq : (b.length : Int) / (1 + (m : Nat)) = ((b.length / (m + 1) : Nat) : Int) := by
          rw [Int.natCast_ediv]
          congr 1
          omega
        have hq1 : 1 ≤ b.length / (m + 1) := Nat.div_pos (by omega) (by omega)
        have hq2 : b.length / (m + 1) ≤ b.length := Nat.div_le_self _ _
        have hrep : (List.replicate ((b.length : Int) / (1 + (m : Nat))).toNat (b.take (1 + (m : Int)).toNat)).flatten = Las.rep (b.length / (m + 1)) (b.take (m + 1)) := by
          rw [hq, e1, Int.toNat_natCast] <;> rfl
        have next : Las.cond b (m + 1) = false → ∀ j, 1 ≤ j → j ≤ m + 1 → Las.cond b j = false := fun z j j1 j2 => by
          by_cases hj : j = m + 1
          · rw [hj]; exact z
          · exact hc j j1 (by omega)
        repeat' (first | ((with_reducible apply w_slot); rfl) | (with_reducible apply w_non) | (with_reducible apply w_bl) | (with_reducible apply w_int) | (with_reducible apply w_str) | (with_reducible apply w_tup) | (with_reducible apply w_lst) | (with_reducible apply w_nil) | (with_reducible apply w_cons) | (with_reducible apply w_star) | (with_reducible apply w_bin) | (with_reducible apply w_cmp) | (with_reducible apply w_chain) | (with_reducible apply w_isN) | (with_reducible apply w_notN) | (with_reducible apply w_andW) | (with_reducible apply w_orW) | (with_reducible apply w_not) | (with_reducible apply w_neg) | (with_reducible apply w_ite) | (with_reducible apply w_f1) | (with_reducible apply w_f2) | (with_reducible apply w_isi) | (with_reducible apply w_ix) | (with_reducible apply w_slAll) | (with_reducible apply w_slL) | (with_reducible apply w_slU) | (with_reducible apply w_slLU) | (with_reducible apply w_pop0) | (with_reducible apply w_meth1) | (with_reducible apply w_lcA) | (with_reducible apply w_lsR1) | (with_reducible apply w_lsR2) | (with_reducible apply w_lsZ) | (with_reducible apply w_srtSet) | (with_reducible apply i_seqW) | (with_reducible apply i_rng1W) | (with_reducible apply i_rng2W) | (with_reducible apply i_enumW) | (with_reducible apply i_zipW) | (with_reducible apply s_exprW) | (with_reducible apply s_retW) | (with_reducible apply s_retNW) | (with_reducible apply s_asgW) | (with_reducible apply s_asgT) | (with_reducible apply s_parW) | (with_reducible apply s_iteW) | (with_reducible apply ss_nilW) | (with_reducible apply ss_consW) | (with_reducible apply w_call) | (with_reducible apply WL.v) | (with_reducible apply WL.l) | ((with_reducible apply exW); (with_reducible refine rep_I (l := b.take (1 + (m : Int)).toNat) ?_ ?_ ?_ ?_)) | ((with_reducible apply exW); first | (with_reducible exact eq_i) | (with_reducible exact eq_I) | (with_reducible exact ne_I) | (with_reducible exact ne_i) | (with_reducible exact len_I) | (with_reducible exact sl_last) | (with_reducible exact sl_take (by omega)) | (with_reducible exact sl_drop (by omega)) | (with_reducible exact mod_I (by omega)) | (with_reducible exact div_I (by omega) (by omega)) | (with_reducible exact cat_I (by omega))) | ((with_reducible apply fewW); (focus ((show _ ≤ 16777216); simp; done))) | ((with_reducible apply exW2); rfl) | ((with_reducible apply exW); rfl) | (exfalso; revert hk; decide) | (exfalso; revert hk; simp; done) | intro hk)
        all_goals first
          | (rw [hq]; omega)
          | (rw [List.length_take]; omega)
          | (have := congrArg List.length hk; rw [List.length_take, List.length_nil] at this; omega)
          | (rename_i hk0; rw [hk0] at hk; cases hk; done)
          | skip
        · show tI _ = tI _
          rw [hrep, decide_eq_true_eq] at hk
          rename_i hk2
          rw [decide_eq_true_eq, hmod] at hk2
          have hcc : Las.cond b (m + 1) = true := Las.cond_iff.mpr ⟨hk2, hk⟩
          have : Las.rootLen b = m + 1 := by
            obtain ⟨r1, r2, r3, r4⟩ := Las.root_ok hb
            rcases Nat.lt_trichotomy (Las.rootLen b) (m + 1) with z | z | z
            · rw [hc _ r1 (by omega)] at r3; cases r3
            · exact z
            · rw [r4 _ (by omega) z] at hcc; cases hcc
          unfold Las.root
          rw [this, e1]
        · refine ⟨rfl, ⟨_, rfl⟩, next ?_⟩
          rw [hrep, decide_eq_false_iff_not] at hk
          cases z : Las.cond b (m + 1) with
          | false => rfl
          | true => exact absurd (Las.cond_iff.mp z).2 hk
        · refine ⟨rfl, ⟨_, rfl⟩, next ?_⟩
          rw [decide_eq_false_iff_not, hmod] at hk
          cases z : Las.cond b (m + 1) with
          | false => rfl
          | true => exact absurd (Las.cond_iff.mp z).1 hk
    · refine .inl ⟨?_, ?_⟩
      · show some (if m < b.length then some (T.int (1 + m)) else none) = _
        rw [if_neg hlt]
      · have := hc b.length (by omega) (by omega)
        rw [Las.cond_full hb] at this
        cases this
end K01
end

section
set_option Elab.async false
set_option linter.all false
set_option maxRecDepth 100000
set_option maxHeartbeats 1000000
namespace K01
open PySem Pv
theorem pur2 (l m : List Int) : T.pures [tI l, tI m] = true := by show (T.pures (ti l) && (T.pures (ti m) && true)) = true; rw [pures_ti, pures_ti]; rfl
theorem ne_nil_dec {l : List Int} : (!decide (l = [])) = true ↔ l ≠ [] := by simp
/-- the lasso as a tree -/
def las (p : List Int × List Int) : T := .tup [tI p.1, tI p.2]
theorem pur_las (p : List Int × List Int) : (las p).pure = true := pur2 p.1 p.2
theorem e_short (k : Nat) (a b : List Int) (hb : b ≠ []) (hl : b.length ≤ 900) (ha : a.length ≤ 900) (h : Hd) : cl (k + 2) "short_in" [tI a, tI b] h = .ok (las (Las.shortIn a b)) h := by
  refine call_w lk_short_in (pur2 a b) (pur_las _) rfl (fun n => ?_) h
  dsimp only [d_short_in, List.map_cons, List.map_nil, List.cons_append, List.nil_append, List.append_nil, Nat.reduceSub, Nat.sub_self, List.replicate]
  with_reducible refine ss_consW ?_
  repeat' (first | ((with_reducible apply w_slot); rfl) | (with_reducible apply w_non) | (with_reducible apply w_bl) | (with_reducible apply w_int) | (with_reducible apply w_str) | (with_reducible apply w_tup) | (with_reducible apply w_lst) | (with_reducible apply w_nil) | (with_reducible apply w_cons) | (with_reducible apply w_star) | (with_reducible apply w_bin) | (with_reducible apply w_cmp) | (with_reducible apply w_chain) | (with_reducible apply w_isN) | (with_reducible apply w_notN) | (with_reducible apply w_andW) | (with_reducible apply w_orW) | (with_reducible apply w_not) | (with_reducible apply w_neg) | (with_reducible apply w_ite) | (with_reducible apply w_f1) | (with_reducible apply w_f2) | (with_reducible apply w_isi) | (with_reducible apply w_ix) | (with_reducible apply w_slAll) | (with_reducible apply w_slL) | (with_reducible apply w_slU) | (with_reducible apply w_slLU) | (with_reducible apply w_pop0) | (with_reducible apply w_meth1) | (with_reducible apply w_lcA) | (with_reducible apply w_lsR1) | (with_reducible apply w_lsR2) | (with_reducible apply w_lsZ) | (with_reducible apply w_srtSet) | (with_reducible apply i_seqW) | (with_reducible apply i_rng1W) | (with_reducible apply i_rng2W) | (with_reducible apply i_enumW) | (with_reducible apply i_zipW) | (with_reducible apply s_exprW) | (with_reducible apply s_retW) | (with_reducible apply s_retNW) | (with_reducible apply s_asgW) | (with_reducible apply s_asgT) | (with_reducible apply s_parW) | (with_reducible apply s_iteW) | (with_reducible apply ss_nilW) | (with_reducible apply ss_consW) | (with_reducible apply w_call) | (with_reducible apply WL.v) | (with_reducible apply WL.l) | (with_reducible refine WE.eq (e_root k b hb hl _) ?_) | ((with_reducible apply exW); first | (with_reducible exact eq_i) | (with_reducible exact eq_I) | (with_reducible exact ne_I) | (with_reducible exact ne_i) | (with_reducible exact len_I) | (with_reducible exact sl_last) | (with_reducible exact sl_take (by omega)) | (with_reducible exact sl_drop (by omega)) | (with_reducible exact mod_I (by omega)) | (with_reducible exact div_I (by omega) (by omega)) | (with_reducible exact cat_I (by omega))) | ((with_reducible apply fewW); (focus ((show _ ≤ 16777216); simp; done))) | ((with_reducible apply exW2); rfl) | ((with_reducible apply exW); rfl) | (exfalso; revert hk; decide) | (exfalso; revert hk; simp; done) | intro hk)
  show WS (evS (Pk (k + 1)) _ _ _) _
  have hroot : Las.red a.length a (Las.root b) = Las.shortIn a b := rfl
  with_reducible refine s_whlW (fun n ρ h => ∃ a' c', ρ = [some (tI a), some (tI b), some (tI a'), some (tI c')] ∧ n = a'.length ∧ c' ≠ [] ∧ c'.length ≤ 900 ∧ Las.red n a' c' = Las.shortIn a b) ?_ a.length ?_ ?_
  · rintro m ρ h1 ⟨a', c', rfl, rfl, hc, hcl, hr⟩
    show WE (evE (Pk (k + 1)) _ _ _) _
    have hop : ∀ l : List Int, opC .ne h1 (.v (tI l)) (.v (.tup [])) = some (!decide (l = [])) := fun l => ne_I (m := [])
    obtain ⟨y, hy⟩ : ∃ y, c'.getLast? = some y := by
      cases e : c'.getLast? with
      | none => exact absurd (List.getLast?_eq_none_iff.mp e) hc
      | some y => exact ⟨y, rfl⟩
    by_cases hn : a' = []
    · subst hn
      repeat' (first | ((with_reducible apply w_slot); rfl) | (with_reducible apply w_non) | (with_reducible apply w_bl) | (with_reducible apply w_int) | (with_reducible apply w_str) | (with_reducible apply w_tup) | (with_reducible apply w_lst) | (with_reducible apply w_nil) | (with_reducible apply w_cons) | (with_reducible apply w_star) | (with_reducible apply w_bin) | (with_reducible apply w_cmp) | (with_reducible apply w_chain) | (with_reducible apply w_isN) | (with_reducible apply w_notN) | (with_reducible apply w_andW) | (with_reducible apply w_orW) | (with_reducible apply w_not) | (with_reducible apply w_neg) | (with_reducible apply w_ite) | (with_reducible apply w_f1) | (with_reducible apply w_f2) | (with_reducible apply w_isi) | (with_reducible apply w_ix) | (with_reducible apply w_slAll) | (with_reducible apply w_slL) | (with_reducible apply w_slU) | (with_reducible apply w_slLU) | (with_reducible apply w_pop0) | (with_reducible apply w_meth1) | (with_reducible apply w_lcA) | (with_reducible apply w_lsR1) | (with_reducible apply w_lsR2) | (with_reducible apply w_lsZ) | (with_reducible apply w_srtSet) | (with_reducible apply i_seqW) | (with_reducible apply i_rng1W) | (with_reducible apply i_rng2W) | (with_reducible apply i_enumW) | (with_reducible apply i_zipW) | (with_reducible apply s_exprW) | (with_reducible apply s_retW) | (with_reducible apply s_retNW) | (with_reducible apply s_asgW) | (with_reducible apply s_asgT) | (with_reducible apply s_parW) | (with_reducible apply s_iteW) | (with_reducible apply ss_nilW) | (with_reducible apply ss_consW) | (with_reducible apply w_call) | (with_reducible apply WL.v) | (with_reducible apply WL.l) | ((with_reducible apply exW); (with_reducible exact hop _)) | ((with_reducible apply exW); first | (with_reducible exact eq_i) | (with_reducible exact eq_I) | (with_reducible exact ne_I) | (with_reducible exact ne_i) | (with_reducible exact len_I) | (with_reducible exact sl_last) | (with_reducible exact sl_take (by omega)) | (with_reducible exact sl_drop (by omega)) | (with_reducible exact mod_I (by omega)) | (with_reducible exact div_I (by omega) (by omega)) | (with_reducible exact cat_I (by omega))) | ((with_reducible apply fewW); (focus ((show _ ≤ 16777216); simp; done))) | ((with_reducible apply exW2); rfl) | ((with_reducible apply exW); rfl) | (exfalso; revert hk; decide) | (exfalso; revert hk; simp; done) | intro hk)
      show las ([], c') = las _
      have hr : ([], c') = Las.shortIn a b := hr
      rw [hr]
    · obtain ⟨x, hx⟩ : ∃ x, a'.getLast? = some x := by
        cases e : a'.getLast? with
        | none => exact absurd (List.getLast?_eq_none_iff.mp e) hn
        | some y => exact ⟨y, rfl⟩
      have hp : 0 < a'.length := List.length_pos_iff.mpr hn
      obtain ⟨m, hm⟩ : ∃ m, a'.length = m + 1 := ⟨a'.length - 1, by omega⟩
      rw [hm] at hr
      unfold Las.red at hr
      repeat' (first | ((with_reducible apply w_slot); rfl) | (with_reducible apply w_non) | (with_reducible apply w_bl) | (with_reducible apply w_int) | (with_reducible apply w_str) | (with_reducible apply w_tup) | (with_reducible apply w_lst) | (with_reducible apply w_nil) | (with_reducible apply w_cons) | (with_reducible apply w_star) | (with_reducible apply w_bin) | (with_reducible apply w_cmp) | (with_reducible apply w_chain) | (with_reducible apply w_isN) | (with_reducible apply w_notN) | (with_reducible apply w_andW) | (with_reducible apply w_orW) | (with_reducible apply w_not) | (with_reducible apply w_neg) | (with_reducible apply w_ite) | (with_reducible apply w_f1) | (with_reducible apply w_f2) | (with_reducible apply w_isi) | (with_reducible apply w_ix) | (with_reducible apply w_slAll) | (with_reducible apply w_slL) | (with_reducible apply w_slU) | (with_reducible apply w_slLU) | (with_reducible apply w_pop0) | (with_reducible apply w_meth1) | (with_reducible apply w_lcA) | (with_reducible apply w_lsR1) | (with_reducible apply w_lsR2) | (with_reducible apply w_lsZ) | (with_reducible apply w_srtSet) | (with_reducible apply i_seqW) | (with_reducible apply i_rng1W) | (with_reducible apply i_rng2W) | (with_reducible apply i_enumW) | (with_reducible apply i_zipW) | (with_reducible apply s_exprW) | (with_reducible apply s_retW) | (with_reducible apply s_retNW) | (with_reducible apply s_asgW) | (with_reducible apply s_asgT) | (with_reducible apply s_parW) | (with_reducible apply s_iteW) | (with_reducible apply ss_nilW) | (with_reducible apply ss_consW) | (with_reducible apply w_call) | (with_reducible apply WL.v) | (with_reducible apply WL.l) | ((with_reducible apply exW); (with_reducible exact hop _)) | ((with_reducible apply exW); (with_reducible exact ix_last hx)) | ((with_reducible apply exW); (with_reducible exact ix_last hy)) | ((with_reducible apply exW); first | (with_reducible exact eq_i) | (with_reducible exact eq_I) | (with_reducible exact ne_I) | (with_reducible exact ne_i) | (with_reducible exact len_I) | (with_reducible exact sl_last) | (with_reducible exact sl_take (by omega)) | (with_reducible exact sl_drop (by omega)) | (with_reducible exact mod_I (by omega)) | (with_reducible exact div_I (by omega) (by omega)) | (with_reducible exact cat_I (by omega))) | ((with_reducible apply fewW); (focus ((show _ ≤ 16777216); simp; done))) | ((with_reducible apply exW2); rfl) | ((with_reducible apply exW); rfl) | (exfalso; revert hk; decide) | (exfalso; revert hk; simp; done) | intro hk)
      all_goals first
        | (show las (a', c') = las _
           have hne : ¬ (a' ≠ [] ∧ a'.getLast? = c'.getLast?) := fun ⟨_, z⟩ => by
             rw [hx, hy, Option.some.injEq] at z
             simp_all
           rw [if_neg hne] at hr
           rw [hr])
        | (refine fewW (by show _ ≤ 16777216; simp [ti_length]; omega) ?_
           have hrot : tI (Las.rot c') = .tup (.int y :: (ti c'.dropLast ++ [])) := by
             unfold Las.rot
             rw [hy]
             simp [tI, ti]
           have hyes : a' ≠ [] ∧ a'.getLast? = c'.getLast? := ⟨hn, by rw [hx, hy]; simp_all⟩
           rw [if_pos hyes] at hr
           exact ⟨m, by omega, a'.dropLast, Las.rot c', by rw [hrot]; rfl, by rw [List.length_dropLast]; omega, Las.rot_ne hc, by rw [Las.rot_len]; exact hcl, hr⟩)
  · show a.length < 100000
    omega
  · exact ⟨a, Las.root b, rfl, rfl, Las.root_ne hb, by have := Las.root_len hb; have := (Las.root_ok hb).2.1; omega, hroot⟩
end K01
end

section
set_option Elab.async false
set_option linter.all false
set_option maxRecDepth 100000
set_option maxHeartbeats 1000000
namespace K01
open PySem Pv
/-! tuple_of -/
mutual
theorem it_pure : ∀ t : T, t.it = true → t.pure = true
  | .int _, _ => rfl
  | .tup ts, h => its_pure ts h
  | .non, h => by cases h
  | .bl _, h => by cases h
  | .str _, h => by cases h
  | .fl _, h => by cases h
  | .ref _, h => by cases h
  | .fn _, h => by cases h
  | .ty _, h => by cases h
theorem its_pure : ∀ ts : List T, T.its ts = true → T.pures ts = true
  | [], _ => rfl
  | t :: ts, h => by
    have h : (t.it && T.its ts) = true := h
    rw [Bool.and_eq_true] at h
    show (t.pure && T.pures ts) = true
    rw [it_pure t h.1, its_pure ts h.2] <;> rfl
end
mutual
def wid : T → Nat
  | .tup ts => max ts.length (wids ts)
  | _ => 0
def wids : List T → Nat
  | [] => 0
  | t :: ts => max (wid t) (wids ts)
end
theorem its_mem : ∀ {ts : List T} {t : T}, T.its ts = true → t ∈ ts → t.it = true
  | u :: ts, t, h, m => by
    have h : (u.it && T.its ts) = true := h
    rw [Bool.and_eq_true] at h
    rcases List.mem_cons.mp m with e | m
    · rw [e]; exact h.1
    · exact its_mem h.2 m
theorem deps_mem : ∀ {ts : List T} {t : T}, t ∈ ts → t.dep ≤ T.deps ts
  | u :: ts, t, m => by
    show t.dep ≤ max u.dep (T.deps ts)
    rcases List.mem_cons.mp m with e | m
    · rw [e]; omega
    · have := deps_mem m; omega
theorem wids_mem : ∀ {ts : List T} {t : T}, t ∈ ts → wid t ≤ wids ts
  | u :: ts, t, m => by
    show wid t ≤ max (wid u) (wids ts)
    rcases List.mem_cons.mp m with e | m
    · rw [e]; omega
    · have := wids_mem m; omega
theorem filterMap_id {α : Type} : ∀ l : List α, l.filterMap some = l
  | [] => rfl
  | x :: l => by rw [List.filterMap_cons, filterMap_id l]
theorem e_tup : ∀ (d : Nat) (t : T), t.it = true → t.dep ≤ d → wid t ≤ 5000 → ∀ (k : Nat) (h : Hd), cl (k + d) "tuple_of" [t] h = .ok t h
  | 0, t, _, hd, _, _, _ => by cases t <;> simp [T.dep] at hd
  | d + 1, .int i, _, _, _, k, h => by
    refine call_w (k := k + d) lk_tuple_of rfl rfl rfl (fun n => ?_) h
    dsimp only [d_tuple_of, List.map_cons, List.map_nil, List.cons_append, List.nil_append, List.append_nil, Nat.reduceSub, Nat.sub_self, List.replicate]
    repeat' (first | ((with_reducible apply w_slot); rfl) | (with_reducible apply w_non) | (with_reducible apply w_bl) | (with_reducible apply w_int) | (with_reducible apply w_str) | (with_reducible apply w_tup) | (with_reducible apply w_lst) | (with_reducible apply w_nil) | (with_reducible apply w_cons) | (with_reducible apply w_star) | (with_reducible apply w_bin) | (with_reducible apply w_cmp) | (with_reducible apply w_chain) | (with_reducible apply w_isN) | (with_reducible apply w_notN) | (with_reducible apply w_andW) | (with_reducible apply w_orW) | (with_reducible apply w_not) | (with_reducible apply w_neg) | (with_reducible apply w_ite) | (with_reducible apply w_f1) | (with_reducible apply w_f2) | (with_reducible apply w_isi) | (with_reducible apply w_ix) | (with_reducible apply w_slAll) | (with_reducible apply w_slL) | (with_reducible apply w_slU) | (with_reducible apply w_slLU) | (with_reducible apply w_pop0) | (with_reducible apply w_meth1) | (with_reducible apply w_lcA) | (with_reducible apply w_lsR1) | (with_reducible apply w_lsR2) | (with_reducible apply w_lsZ) | (with_reducible apply w_srtSet) | (with_reducible apply i_seqW) | (with_reducible apply i_rng1W) | (with_reducible apply i_rng2W) | (with_reducible apply i_enumW) | (with_reducible apply i_zipW) | (with_reducible apply s_exprW) | (with_reducible apply s_retW) | (with_reducible apply s_retNW) | (with_reducible apply s_asgW) | (with_reducible apply s_asgT) | (with_reducible apply s_parW) | (with_reducible apply s_iteW) | (with_reducible apply ss_nilW) | (with_reducible apply ss_consW) | (with_reducible apply w_call) | (with_reducible apply WL.v) | (with_reducible apply WL.l) | ((with_reducible apply exW); first | (with_reducible exact eq_i) | (with_reducible exact eq_I) | (with_reducible exact ne_I) | (with_reducible exact ne_i) | (with_reducible exact len_I) | (with_reducible exact sl_last) | (with_reducible exact sl_take (by omega)) | (with_reducible exact sl_drop (by omega)) | (with_reducible exact mod_I (by omega)) | (with_reducible exact div_I (by omega) (by omega)) | (with_reducible exact cat_I (by omega))) | ((with_reducible apply fewW); (focus ((show _ ≤ 16777216); simp; done))) | ((with_reducible apply exW2); rfl) | ((with_reducible apply exW); rfl) | (exfalso; revert hk; decide) | (exfalso; revert hk; simp; done) | intro hk)
    all_goals rfl
  | d + 1, .tup ts, hi, hd, hw, k, h => by
    have hd : T.deps ts + 1 ≤ d + 1 := hd
    have hw : max ts.length (wids ts) ≤ 5000 := hw
    refine call_w (k := k + d) lk_tuple_of (by show (T.pures ts && true) = true; rw [its_pure ts hi]; rfl) (show (T.tup ts).pure = true from its_pure ts hi) rfl (fun n => ?_) h
    dsimp only [d_tuple_of, List.map_cons, List.map_nil, List.cons_append, List.nil_append, List.append_nil, Nat.reduceSub, Nat.sub_self, List.replicate]
    repeat' (first | ((with_reducible apply w_slot); rfl) | (with_reducible apply w_non) | (with_reducible apply w_bl) | (with_reducible apply w_int) | (with_reducible apply w_str) | (with_reducible apply w_tup) | (with_reducible apply w_lst) | (with_reducible apply w_nil) | (with_reducible apply w_cons) | (with_reducible apply w_star) | (with_reducible apply w_bin) | (with_reducible apply w_cmp) | (with_reducible apply w_chain) | (with_reducible apply w_isN) | (with_reducible apply w_notN) | (with_reducible apply w_andW) | (with_reducible apply w_orW) | (with_reducible apply w_not) | (with_reducible apply w_neg) | (with_reducible apply w_ite) | (with_reducible apply w_f1) | (with_reducible apply w_f2) | (with_reducible apply w_isi) | (with_reducible apply w_ix) | (with_reducible apply w_slAll) | (with_reducible apply w_slL) | (with_reducible apply w_slU) | (with_reducible apply w_slLU) | (with_reducible apply w_pop0) | (with_reducible apply w_meth1) | (with_reducible apply w_lcA) | (with_reducible apply w_lsR1) | (with_reducible apply w_lsR2) | (with_reducible apply w_lsZ) | (with_reducible apply w_srtSet) | (with_reducible apply i_seqW) | (with_reducible apply i_rng1W) | (with_reducible apply i_rng2W) | (with_reducible apply i_enumW) | (with_reducible apply i_zipW) | (with_reducible apply s_exprW) | (with_reducible apply s_retW) | (with_reducible apply s_retNW) | (with_reducible apply s_asgW) | (with_reducible apply s_asgT) | (with_reducible apply s_parW) | (with_reducible apply s_iteW) | (with_reducible apply ss_nilW) | (with_reducible apply ss_consW) | (with_reducible apply w_call) | (with_reducible apply WL.v) | (with_reducible apply WL.l) | ((with_reducible apply exW); first | (with_reducible exact eq_i) | (with_reducible exact eq_I) | (with_reducible exact ne_I) | (with_reducible exact ne_i) | (with_reducible exact len_I) | (with_reducible exact sl_last) | (with_reducible exact sl_take (by omega)) | (with_reducible exact sl_drop (by omega)) | (with_reducible exact mod_I (by omega)) | (with_reducible exact div_I (by omega) (by omega)) | (with_reducible exact cat_I (by omega))) | ((with_reducible apply fewW); (focus ((show _ ≤ 16777216); simp; done))) | ((with_reducible apply exW2); rfl) | ((with_reducible apply exW); rfl) | (exfalso; revert hk; decide) | (exfalso; revert hk; simp; done) | intro hk)
    all_goals refine ⟨ts, id, some, by rw [List.map_id]; exact fix_tp, by show ts.length < 100000; omega, by show 100000 ≤ 16777216; omega, fun t ht => ⟨_, rfl, c_nilW ⟨fun _ => ?_, fun z => by cases z⟩⟩, ?_⟩
    · repeat' (first | ((with_reducible apply w_slot); rfl) | (with_reducible apply w_non) | (with_reducible apply w_bl) | (with_reducible apply w_int) | (with_reducible apply w_str) | (with_reducible apply w_tup) | (with_reducible apply w_lst) | (with_reducible apply w_nil) | (with_reducible apply w_cons) | (with_reducible apply w_star) | (with_reducible apply w_bin) | (with_reducible apply w_cmp) | (with_reducible apply w_chain) | (with_reducible apply w_isN) | (with_reducible apply w_notN) | (with_reducible apply w_andW) | (with_reducible apply w_orW) | (with_reducible apply w_not) | (with_reducible apply w_neg) | (with_reducible apply w_ite) | (with_reducible apply w_f1) | (with_reducible apply w_f2) | (with_reducible apply w_isi) | (with_reducible apply w_ix) | (with_reducible apply w_slAll) | (with_reducible apply w_slL) | (with_reducible apply w_slU) | (with_reducible apply w_slLU) | (with_reducible apply w_pop0) | (with_reducible apply w_meth1) | (with_reducible apply w_lcA) | (with_reducible apply w_lsR1) | (with_reducible apply w_lsR2) | (with_reducible apply w_lsZ) | (with_reducible apply w_srtSet) | (with_reducible apply i_seqW) | (with_reducible apply i_rng1W) | (with_reducible apply i_rng2W) | (with_reducible apply i_enumW) | (with_reducible apply i_zipW) | (with_reducible apply s_exprW) | (with_reducible apply s_retW) | (with_reducible apply s_retNW) | (with_reducible apply s_asgW) | (with_reducible apply s_asgT) | (with_reducible apply s_parW) | (with_reducible apply s_iteW) | (with_reducible apply ss_nilW) | (with_reducible apply ss_consW) | (with_reducible apply w_call) | (with_reducible apply WL.v) | (with_reducible apply WL.l) | ((with_reducible apply WE.cl); (exact e_tup d t (its_mem hi ht) (by have := deps_mem ht; omega) (by have := wids_mem ht; omega) k _)) | ((with_reducible apply exW); first | (with_reducible exact eq_i) | (with_reducible exact eq_I) | (with_reducible exact ne_I) | (with_reducible exact ne_i) | (with_reducible exact len_I) | (with_reducible exact sl_last) | (with_reducible exact sl_take (by omega)) | (with_reducible exact sl_drop (by omega)) | (with_reducible exact mod_I (by omega)) | (with_reducible exact div_I (by omega) (by omega)) | (with_reducible exact cat_I (by omega))) | ((with_reducible apply fewW); (focus ((show _ ≤ 16777216); simp; done))) | ((with_reducible apply exW2); rfl) | ((with_reducible apply exW); rfl) | (exfalso; revert hk; decide) | (exfalso; revert hk; simp; done) | intro hk)
      all_goals exact ⟨rfl, rfl⟩
    · rw [filterMap_id]
      repeat' (first | ((with_reducible apply w_slot); rfl) | (with_reducible apply w_non) | (with_reducible apply w_bl) | (with_reducible apply w_int) | (with_reducible apply w_str) | (with_reducible apply w_tup) | (with_reducible apply w_lst) | (with_reducible apply w_nil) | (with_reducible apply w_cons) | (with_reducible apply w_star) | (with_reducible apply w_bin) | (with_reducible apply w_cmp) | (with_reducible apply w_chain) | (with_reducible apply w_isN) | (with_reducible apply w_notN) | (with_reducible apply w_andW) | (with_reducible apply w_orW) | (with_reducible apply w_not) | (with_reducible apply w_neg) | (with_reducible apply w_ite) | (with_reducible apply w_f1) | (with_reducible apply w_f2) | (with_reducible apply w_isi) | (with_reducible apply w_ix) | (with_reducible apply w_slAll) | (with_reducible apply w_slL) | (with_reducible apply w_slU) | (with_reducible apply w_slLU) | (with_reducible apply w_pop0) | (with_reducible apply w_meth1) | (with_reducible apply w_lcA) | (with_reducible apply w_lsR1) | (with_reducible apply w_lsR2) | (with_reducible apply w_lsZ) | (with_reducible apply w_srtSet) | (with_reducible apply i_seqW) | (with_reducible apply i_rng1W) | (with_reducible apply i_rng2W) | (with_reducible apply i_enumW) | (with_reducible apply i_zipW) | (with_reducible apply s_exprW) | (with_reducible apply s_retW) | (with_reducible apply s_retNW) | (with_reducible apply s_asgW) | (with_reducible apply s_asgT) | (with_reducible apply s_parW) | (with_reducible apply s_iteW) | (with_reducible apply ss_nilW) | (with_reducible apply ss_consW) | (with_reducible apply w_call) | (with_reducible apply WL.v) | (with_reducible apply WL.l) | ((with_reducible apply exW); first | (with_reducible exact eq_i) | (with_reducible exact eq_I) | (with_reducible exact ne_I) | (with_reducible exact ne_i) | (with_reducible exact len_I) | (with_reducible exact sl_last) | (with_reducible exact sl_take (by omega)) | (with_reducible exact sl_drop (by omega)) | (with_reducible exact mod_I (by omega)) | (with_reducible exact div_I (by omega) (by omega)) | (with_reducible exact cat_I (by omega))) | ((with_reducible apply fewW); (focus ((show _ ≤ 16777216); simp; done))) | ((with_reducible apply exW2); rfl) | ((with_reducible apply exW); rfl) | (exfalso; revert hk; decide) | (exfalso; revert hk; simp; done) | intro hk)
      all_goals rfl
  | _ + 1, .non, h, _, _, _, _ => by cases h
  | _ + 1, .bl _, h, _, _, _, _ => by cases h
  | _ + 1, .str _, h, _, _, _, _ => by cases h
  | _ + 1, .fl _, h, _, _, _, _ => by cases h
  | _ + 1, .ref _, h, _, _, _, _ => by cases h
  | _ + 1, .fn _, h, _, _, _, _ => by cases h
  | _ + 1, .ty _, h, _, _, _, _ => by cases h
/-! lassos that are well formed -/
structure Lok (p : List Int × List Int) : Prop where
  ne : p.2 ≠ []
  l1 : p.1.length ≤ 900
  l2 : p.2.length ≤ 900
  i1 : ∀ i ∈ p.1, 1 ≤ i ∧ i ≤ 3
  i2 : ∀ i ∈ p.2, 1 ≤ i ∧ i ≤ 3
theorem all_of {l : List Int} (h : ∀ i ∈ l, 1 ≤ i ∧ i ≤ 3) : (l.all fun i => decide (1 ≤ i) && decide (i ≤ 3)) = true := by
  rw [List.all_eq_true]
  intro i hi
  obtain ⟨a, b⟩ := h i hi
  simp [a, b]
theorem las_it (p : List Int × List Int) : (las p).it = true := by show (T.its (ti p.1) && (T.its (ti p.2) && true)) = true; rw [its_ti, its_ti]; rfl
theorem las_dep (p : List Int × List Int) : (las p).dep ≤ 3 := by
  have h1 := deps_ti p.1
  have h2 := deps_ti p.2
  show max (T.deps (ti p.1) + 1) (max (T.deps (ti p.2) + 1) 0) + 1 ≤ 3
  omega
theorem wids_ti : ∀ l : List Int, wids (ti l) = 0
  | [] => rfl
  | _ :: l => by show max 0 (wids (ti l)) = 0; rw [wids_ti l] <;> rfl
theorem las_wid {p : List Int × List Int} (h : Lok p) : wid (las p) ≤ 5000 := by
  have := h.l1
  have := h.l2
  show max 2 (max (max (ti p.1).length (wids (ti p.1))) (max (max (ti p.2).length (wids (ti p.2))) 0)) ≤ 5000
  rw [wids_ti, wids_ti, ti_length, ti_length]
  omega
theorem pur_l {p : List Int × List Int} : T.pures [las p] = true := by show ((las p).pure && true) = true; rw [pur_las]; rfl
theorem pur_3l {p : List Int × List Int} : T.pures [.int 3, las p] = true := by show ((las p).pure && true) = true; rw [pur_las]; rfl
theorem all_L {h : Hd} {ts : List T} : op1 .all h (.l ts) = (bls ts).map fun bs => .v (.bl (bs.all id)) := rfl
theorem e_lform (k : Nat) (p : List Int × List Int) (ok : Lok p) (h : Hd) : cl (k + 4) "is_lasso_form" [.int 3, las p] h = .ok (.bl true) h := by
  obtain ⟨a, b⟩ := p
  refine call_w lk_is_lasso_form pur_3l rfl rfl (fun n => ?_) h
  dsimp only [d_is_lasso_form, List.map_cons, List.map_nil, List.cons_append, List.nil_append, List.append_nil, Nat.reduceSub, Nat.sub_self, List.replicate]
  have h2 : T.pures [tI a, tI b] = true := pur2 a b
  have hne : ∀ h, opC .ne h (.v (tI b)) (.v (.tup [])) = some true := fun h => by
    have := ne_I (h := h) (l := b) (m := [])
    rw [decide_eq_false ok.ne] at this
    exact this
  repeat' (first | ((with_reducible apply w_slot); rfl) | (with_reducible apply w_non) | (with_reducible apply w_bl) | (with_reducible apply w_int) | (with_reducible apply w_str) | (with_reducible apply w_tup) | (with_reducible apply w_lst) | (with_reducible apply w_nil) | (with_reducible apply w_cons) | (with_reducible apply w_star) | (with_reducible apply w_bin) | (with_reducible apply w_cmp) | (with_reducible apply w_chain) | (with_reducible apply w_isN) | (with_reducible apply w_notN) | (with_reducible apply w_andW) | (with_reducible apply w_orW) | (with_reducible apply w_not) | (with_reducible apply w_neg) | (with_reducible apply w_ite) | (with_reducible apply w_f1) | (with_reducible apply w_f2) | (with_reducible apply w_isi) | (with_reducible apply w_ix) | (with_reducible apply w_slAll) | (with_reducible apply w_slL) | (with_reducible apply w_slU) | (with_reducible apply w_slLU) | (with_reducible apply w_pop0) | (with_reducible apply w_meth1) | (with_reducible apply w_lcA) | (with_reducible apply w_lsR1) | (with_reducible apply w_lsR2) | (with_reducible apply w_lsZ) | (with_reducible apply w_srtSet) | (with_reducible apply i_seqW) | (with_reducible apply i_rng1W) | (with_reducible apply i_rng2W) | (with_reducible apply i_enumW) | (with_reducible apply i_zipW) | (with_reducible apply s_exprW) | (with_reducible apply s_retW) | (with_reducible apply s_retNW) | (with_reducible apply s_asgW) | (with_reducible apply s_asgT) | (with_reducible apply s_parW) | (with_reducible apply s_iteW) | (with_reducible apply ss_nilW) | (with_reducible apply ss_consW) | (with_reducible apply w_call) | (with_reducible apply WL.v) | (with_reducible apply WL.l) | ((with_reducible apply WE.cl); (exact e_tup2 (k + 2) [tI a, tI b] 2 h2 _)) | ((with_reducible apply exW); (with_reducible exact hne _)) | ((with_reducible apply exW); first | (with_reducible exact eq_i) | (with_reducible exact eq_I) | (with_reducible exact ne_I) | (with_reducible exact ne_i) | (with_reducible exact len_I) | (with_reducible exact sl_last) | (with_reducible exact sl_take (by omega)) | (with_reducible exact sl_drop (by omega)) | (with_reducible exact mod_I (by omega)) | (with_reducible exact div_I (by omega) (by omega)) | (with_reducible exact cat_I (by omega))) | ((with_reducible apply fewW); (focus ((show _ ≤ 16777216); simp; done))) | ((with_reducible apply exW2); rfl) | ((with_reducible apply exW); rfl) | (exfalso; revert hk; decide) | (exfalso; revert hk; simp; done) | intro hk)
  have ha : a.length ≤ 900 := ok.l1
  have hb : b.length ≤ 900 := ok.l2
  · refine ⟨[a, b], tI, fun l => some (.bl (l.all fun i => decide (1 ≤ i) && decide (i ≤ 3))), fix_tp, by show 2 < 100000; omega, by show 100000 ≤ 16777216; omega, fun l hl => ⟨_, rfl, c_nilW ⟨fun _ => ?_, fun z => by cases z⟩⟩, ?_⟩
    · have hll : l.length ≤ 1000 := by
        rcases List.mem_cons.mp hl with e | hl
        · rw [e]; omega
        · rw [List.mem_singleton.mp hl]; omega
      repeat' (first | ((with_reducible apply w_slot); rfl) | (with_reducible apply w_non) | (with_reducible apply w_bl) | (with_reducible apply w_int) | (with_reducible apply w_str) | (with_reducible apply w_tup) | (with_reducible apply w_lst) | (with_reducible apply w_nil) | (with_reducible apply w_cons) | (with_reducible apply w_star) | (with_reducible apply w_bin) | (with_reducible apply w_cmp) | (with_reducible apply w_chain) | (with_reducible apply w_isN) | (with_reducible apply w_notN) | (with_reducible apply w_andW) | (with_reducible apply w_orW) | (with_reducible apply w_not) | (with_reducible apply w_neg) | (with_reducible apply w_ite) | (with_reducible apply w_f1) | (with_reducible apply w_f2) | (with_reducible apply w_isi) | (with_reducible apply w_ix) | (with_reducible apply w_slAll) | (with_reducible apply w_slL) | (with_reducible apply w_slU) | (with_reducible apply w_slLU) | (with_reducible apply w_pop0) | (with_reducible apply w_meth1) | (with_reducible apply w_lcA) | (with_reducible apply w_lsR1) | (with_reducible apply w_lsR2) | (with_reducible apply w_lsZ) | (with_reducible apply w_srtSet) | (with_reducible apply i_seqW) | (with_reducible apply i_rng1W) | (with_reducible apply i_rng2W) | (with_reducible apply i_enumW) | (with_reducible apply i_zipW) | (with_reducible apply s_exprW) | (with_reducible apply s_retW) | (with_reducible apply s_retNW) | (with_reducible apply s_asgW) | (with_reducible apply s_asgT) | (with_reducible apply s_parW) | (with_reducible apply s_iteW) | (with_reducible apply ss_nilW) | (with_reducible apply ss_consW) | (with_reducible apply w_call) | (with_reducible apply WL.v) | (with_reducible apply WL.l) | ((with_reducible apply WE.cl); (exact e_text k 3 l hll _)) | ((with_reducible apply exW); first | (with_reducible exact eq_i) | (with_reducible exact eq_I) | (with_reducible exact ne_I) | (with_reducible exact ne_i) | (with_reducible exact len_I) | (with_reducible exact sl_last) | (with_reducible exact sl_take (by omega)) | (with_reducible exact sl_drop (by omega)) | (with_reducible exact mod_I (by omega)) | (with_reducible exact div_I (by omega) (by omega)) | (with_reducible exact cat_I (by omega))) | ((with_reducible apply fewW); (focus ((show _ ≤ 16777216); simp; done))) | ((with_reducible apply exW2); rfl) | ((with_reducible apply exW); rfl) | (exfalso; revert hk; decide) | (exfalso; revert hk; simp; done) | intro hk)
      all_goals exact ⟨rfl, rfl⟩
    · refine exW (z := .v (.bl true)) ?_ ?_
      · rw [all_L]
        show (some [a.all _, b.all _]).map (fun bs => VV.v (.bl (bs.all id))) = _
        rw [all_of ok.i1, all_of ok.i2] <;> rfl
      · repeat' (first | ((with_reducible apply w_slot); rfl) | (with_reducible apply w_non) | (with_reducible apply w_bl) | (with_reducible apply w_int) | (with_reducible apply w_str) | (with_reducible apply w_tup) | (with_reducible apply w_lst) | (with_reducible apply w_nil) | (with_reducible apply w_cons) | (with_reducible apply w_star) | (with_reducible apply w_bin) | (with_reducible apply w_cmp) | (with_reducible apply w_chain) | (with_reducible apply w_isN) | (with_reducible apply w_notN) | (with_reducible apply w_andW) | (with_reducible apply w_orW) | (with_reducible apply w_not) | (with_reducible apply w_neg) | (with_reducible apply w_ite) | (with_reducible apply w_f1) | (with_reducible apply w_f2) | (with_reducible apply w_isi) | (with_reducible apply w_ix) | (with_reducible apply w_slAll) | (with_reducible apply w_slL) | (with_reducible apply w_slU) | (with_reducible apply w_slLU) | (with_reducible apply w_pop0) | (with_reducible apply w_meth1) | (with_reducible apply w_lcA) | (with_reducible apply w_lsR1) | (with_reducible apply w_lsR2) | (with_reducible apply w_lsZ) | (with_reducible apply w_srtSet) | (with_reducible apply i_seqW) | (with_reducible apply i_rng1W) | (with_reducible apply i_rng2W) | (with_reducible apply i_enumW) | (with_reducible apply i_zipW) | (with_reducible apply s_exprW) | (with_reducible apply s_retW) | (with_reducible apply s_retNW) | (with_reducible apply s_asgW) | (with_reducible apply s_asgT) | (with_reducible apply s_parW) | (with_reducible apply s_iteW) | (with_reducible apply ss_nilW) | (with_reducible apply ss_consW) | (with_reducible apply w_call) | (with_reducible apply WL.v) | (with_reducible apply WL.l) | ((with_reducible apply exW); (with_reducible exact hne _)) | ((with_reducible apply exW); first | (with_reducible exact eq_i) | (with_reducible exact eq_I) | (with_reducible exact ne_I) | (with_reducible exact ne_i) | (with_reducible exact len_I) | (with_reducible exact sl_last) | (with_reducible exact sl_take (by omega)) | (with_reducible exact sl_drop (by omega)) | (with_reducible exact mod_I (by omega)) | (with_reducible exact div_I (by omega) (by omega)) | (with_reducible exact cat_I (by omega))) | ((with_reducible apply fewW); (focus ((show _ ≤ 16777216); simp; done))) | ((with_reducible apply exW2); rfl) | ((with_reducible apply exW); rfl) | (exfalso; revert hk; decide) | (exfalso; revert hk; simp; done) | intro hk)
        all_goals rfl
/-- a lasso, looked at -/
theorem e_sure (k : Nat) (p : List Int × List Int) (ok : Lok p) (h : Hd) : cl (k + 6) "sure_lasso" [.int 3, las p] h = .ok (las p) h := by
  refine call_w lk_sure_lasso pur_3l (pur_las p) rfl (fun n => ?_) h
  dsimp only [d_sure_lasso, List.map_cons, List.map_nil, List.cons_append, List.nil_append, List.append_nil, Nat.reduceSub, Nat.sub_self, List.replicate]
  repeat' (first | ((with_reducible apply w_slot); rfl) | (with_reducible apply w_non) | (with_reducible apply w_bl) | (with_reducible apply w_int) | (with_reducible apply w_str) | (with_reducible apply w_tup) | (with_reducible apply w_lst) | (with_reducible apply w_nil) | (with_reducible apply w_cons) | (with_reducible apply w_star) | (with_reducible apply w_bin) | (with_reducible apply w_cmp) | (with_reducible apply w_chain) | (with_reducible apply w_isN) | (with_reducible apply w_notN) | (with_reducible apply w_andW) | (with_reducible apply w_orW) | (with_reducible apply w_not) | (with_reducible apply w_neg) | (with_reducible apply w_ite) | (with_reducible apply w_f1) | (with_reducible apply w_f2) | (with_reducible apply w_isi) | (with_reducible apply w_ix) | (with_reducible apply w_slAll) | (with_reducible apply w_slL) | (with_reducible apply w_slU) | (with_reducible apply w_slLU) | (with_reducible apply w_pop0) | (with_reducible apply w_meth1) | (with_reducible apply w_lcA) | (with_reducible apply w_lsR1) | (with_reducible apply w_lsR2) | (with_reducible apply w_lsZ) | (with_reducible apply w_srtSet) | (with_reducible apply i_seqW) | (with_reducible apply i_rng1W) | (with_reducible apply i_rng2W) | (with_reducible apply i_enumW) | (with_reducible apply i_zipW) | (with_reducible apply s_exprW) | (with_reducible apply s_retW) | (with_reducible apply s_retNW) | (with_reducible apply s_asgW) | (with_reducible apply s_asgT) | (with_reducible apply s_parW) | (with_reducible apply s_iteW) | (with_reducible apply ss_nilW) | (with_reducible apply ss_consW) | (with_reducible apply w_call) | (with_reducible apply WL.v) | (with_reducible apply WL.l) | ((with_reducible apply WE.cl); (exact e_wide (k + 3) _)) | ((with_reducible apply WE.cl); (exact e_tup 3 (las p) (las_it p) (las_dep p) (las_wid ok) (k + 2) _)) | ((with_reducible apply WE.cl); (exact e_lform (k + 1) p ok _)) | ((with_reducible apply exW); first | (with_reducible exact eq_i) | (with_reducible exact eq_I) | (with_reducible exact ne_I) | (with_reducible exact ne_i) | (with_reducible exact len_I) | (with_reducible exact sl_last) | (with_reducible exact sl_take (by omega)) | (with_reducible exact sl_drop (by omega)) | (with_reducible exact mod_I (by omega)) | (with_reducible exact div_I (by omega) (by omega)) | (with_reducible exact cat_I (by omega))) | ((with_reducible apply fewW); (focus ((show _ ≤ 16777216); simp; done))) | ((with_reducible apply exW2); rfl) | ((with_reducible apply exW); rfl) | (exfalso; revert hk; decide) | (exfalso; revert hk; simp; done) | intro hk)
  all_goals rfl
theorem short_lok {p : List Int × List Int} (ok : Lok p) : Lok (Las.shortIn p.1 p.2) := by
  obtain ⟨h1, h2, h3⟩ := Las.short_mem (a := p.1) (b := p.2)
  obtain ⟨_, g2, _⟩ := Las.short_ok (a := p.1) ok.ne
  have := (Las.root_ok ok.ne).2.1
  exact ⟨Las.short_ne ok.ne, Nat.le_trans h3 ok.l1, by rw [g2]; exact Nat.le_trans this ok.l2, fun i hi => ok.i1 i (h1 i hi), fun i hi => ok.i2 i (h2 i hi)⟩
theorem las_inj {p q : List Int × List Int} : las p = las q ↔ p = q := by
  unfold las
  simp only [T.tup.injEq, List.cons.injEq, tI_inj, and_true]
  exact ⟨fun ⟨a, b⟩ => Prod.ext a b, fun e => by rw [e]; exact ⟨rfl, rfl⟩⟩
theorem eq_las {h : Hd} (p q : List Int × List Int) : opC .eq h (.v (las p)) (.v (las q)) = some (decide (p = q)) := by
  obtain ⟨k, e, hk⟩ := eqD_it (h := h) (las_it p) (las_it q) (Nat.le_trans (las_dep p) (by decide)) (Nat.le_trans (las_dep q) (by decide))
  show eqD h _ _ = _
  rw [e]
  rw [las_inj] at hk
  cases k with
  | true => rw [decide_eq_true (hk.mp rfl)]
  | false => rw [decide_eq_false fun z => by have := hk.mpr z; cases this]
theorem e_isshort (k : Nat) (p : List Int × List Int) (ok : Lok p) (h : Hd) : cl (k + 7) "is_short" [las p] h = .ok (.bl (decide (Las.shortIn p.1 p.2 = p))) h := by
  refine call_w lk_is_short pur_l rfl rfl (fun n => ?_) h
  dsimp only [d_is_short, List.map_cons, List.map_nil, List.cons_append, List.nil_append, List.append_nil, Nat.reduceSub, Nat.sub_self, List.replicate]
  repeat' (first | ((with_reducible apply w_slot); rfl) | (with_reducible apply w_non) | (with_reducible apply w_bl) | (with_reducible apply w_int) | (with_reducible apply w_str) | (with_reducible apply w_tup) | (with_reducible apply w_lst) | (with_reducible apply w_nil) | (with_reducible apply w_cons) | (with_reducible apply w_star) | (with_reducible apply w_bin) | (with_reducible apply w_cmp) | (with_reducible apply w_chain) | (with_reducible apply w_isN) | (with_reducible apply w_notN) | (with_reducible apply w_andW) | (with_reducible apply w_orW) | (with_reducible apply w_not) | (with_reducible apply w_neg) | (with_reducible apply w_ite) | (with_reducible apply w_f1) | (with_reducible apply w_f2) | (with_reducible apply w_isi) | (with_reducible apply w_ix) | (with_reducible apply w_slAll) | (with_reducible apply w_slL) | (with_reducible apply w_slU) | (with_reducible apply w_slLU) | (with_reducible apply w_pop0) | (with_reducible apply w_meth1) | (with_reducible apply w_lcA) | (with_reducible apply w_lsR1) | (with_reducible apply w_lsR2) | (with_reducible apply w_lsZ) | (with_reducible apply w_srtSet) | (with_reducible apply i_seqW) | (with_reducible apply i_rng1W) | (with_reducible apply i_rng2W) | (with_reducible apply i_enumW) | (with_reducible apply i_zipW) | (with_reducible apply s_exprW) | (with_reducible apply s_retW) | (with_reducible apply s_retNW) | (with_reducible apply s_asgW) | (with_reducible apply s_asgT) | (with_reducible apply s_parW) | (with_reducible apply s_iteW) | (with_reducible apply ss_nilW) | (with_reducible apply ss_consW) | (with_reducible apply w_call) | (with_reducible apply WL.v) | (with_reducible apply WL.l) | (with_reducible refine w_glob gl_MOST_WIDE ?_) | ((with_reducible apply WE.cl); (exact e_sure k p ok _)) | ((with_reducible apply WE.cl); (exact e_short (k + 4) p.1 p.2 ok.ne ok.l2 ok.l1 _)) | ((with_reducible apply exW); (with_reducible exact eq_las _ _)) | ((with_reducible apply exW); first | (with_reducible exact eq_i) | (with_reducible exact eq_I) | (with_reducible exact ne_I) | (with_reducible exact ne_i) | (with_reducible exact len_I) | (with_reducible exact sl_last) | (with_reducible exact sl_take (by omega)) | (with_reducible exact sl_drop (by omega)) | (with_reducible exact mod_I (by omega)) | (with_reducible exact div_I (by omega) (by omega)) | (with_reducible exact cat_I (by omega))) | ((with_reducible apply fewW); (focus ((show _ ≤ 16777216); simp; done))) | ((with_reducible apply exW2); rfl) | ((with_reducible apply exW); rfl) | (exfalso; revert hk; decide) | (exfalso; revert hk; simp; done) | intro hk)
  all_goals rfl
theorem pur_2l {p q : List Int × List Int} : T.pures [las p, las q] = true := by show ((las p).pure && ((las q).pure && true)) = true; rw [pur_las, pur_las]; rfl
theorem e_same (k : Nat) (p q : List Int × List Int) (ok : Lok p) (ok2 : Lok q) (h : Hd) : cl (k + 7) "same_endless" [las p, las q] h = .ok (.bl (decide (Las.shortIn p.1 p.2 = Las.shortIn q.1 q.2))) h := by
  refine call_w lk_same_endless pur_2l rfl rfl (fun n => ?_) h
  dsimp only [d_same_endless, List.map_cons, List.map_nil, List.cons_append, List.nil_append, List.append_nil, Nat.reduceSub, Nat.sub_self, List.replicate]
  repeat' (first | ((with_reducible apply w_slot); rfl) | (with_reducible apply w_non) | (with_reducible apply w_bl) | (with_reducible apply w_int) | (with_reducible apply w_str) | (with_reducible apply w_tup) | (with_reducible apply w_lst) | (with_reducible apply w_nil) | (with_reducible apply w_cons) | (with_reducible apply w_star) | (with_reducible apply w_bin) | (with_reducible apply w_cmp) | (with_reducible apply w_chain) | (with_reducible apply w_isN) | (with_reducible apply w_notN) | (with_reducible apply w_andW) | (with_reducible apply w_orW) | (with_reducible apply w_not) | (with_reducible apply w_neg) | (with_reducible apply w_ite) | (with_reducible apply w_f1) | (with_reducible apply w_f2) | (with_reducible apply w_isi) | (with_reducible apply w_ix) | (with_reducible apply w_slAll) | (with_reducible apply w_slL) | (with_reducible apply w_slU) | (with_reducible apply w_slLU) | (with_reducible apply w_pop0) | (with_reducible apply w_meth1) | (with_reducible apply w_lcA) | (with_reducible apply w_lsR1) | (with_reducible apply w_lsR2) | (with_reducible apply w_lsZ) | (with_reducible apply w_srtSet) | (with_reducible apply i_seqW) | (with_reducible apply i_rng1W) | (with_reducible apply i_rng2W) | (with_reducible apply i_enumW) | (with_reducible apply i_zipW) | (with_reducible apply s_exprW) | (with_reducible apply s_retW) | (with_reducible apply s_retNW) | (with_reducible apply s_asgW) | (with_reducible apply s_asgT) | (with_reducible apply s_parW) | (with_reducible apply s_iteW) | (with_reducible apply ss_nilW) | (with_reducible apply ss_consW) | (with_reducible apply w_call) | (with_reducible apply WL.v) | (with_reducible apply WL.l) | (with_reducible refine w_glob gl_MOST_WIDE ?_) | ((with_reducible apply WE.cl); (exact e_sure k p ok _)) | ((with_reducible apply WE.cl); (exact e_sure k q ok2 _)) | ((with_reducible apply WE.cl); (exact e_short (k + 4) p.1 p.2 ok.ne ok.l2 ok.l1 _)) | ((with_reducible apply WE.cl); (exact e_short (k + 4) q.1 q.2 ok2.ne ok2.l2 ok2.l1 _)) | ((with_reducible apply exW); (with_reducible exact eq_las _ _)) | ((with_reducible apply exW); first | (with_reducible exact eq_i) | (with_reducible exact eq_I) | (with_reducible exact ne_I) | (with_reducible exact ne_i) | (with_reducible exact len_I) | (with_reducible exact sl_last) | (with_reducible exact sl_take (by omega)) | (with_reducible exact sl_drop (by omega)) | (with_reducible exact mod_I (by omega)) | (with_reducible exact div_I (by omega) (by omega)) | (with_reducible exact cat_I (by omega))) | ((with_reducible apply fewW); (focus ((show _ ≤ 16777216); simp; done))) | ((with_reducible apply exW2); rfl) | ((with_reducible apply exW); rfl) | (exfalso; revert hk; decide) | (exfalso; revert hk; simp; done) | intro hk)
  all_goals rfl
end K01
end

section
set_option Elab.async false
set_option linter.all false
set_option maxRecDepth 100000
set_option maxHeartbeats 1000000
namespace K01
open PySem Pv
/-- the letter at a place -/
theorem e_entry (k : Nat) (p : List Int × List Int) (ok : Lok p) (j : Int) (hj : 1 ≤ j) (h : Hd) : ∃ x, Las.word p.1 p.2 (j - 1).toNat = some x ∧ cl (k + 1) "entry_at" [tI p.1, tI p.2, .int j] h = .ok (.int x) h := by
  have hp : 0 < p.2.length := List.length_pos_iff.mpr ok.ne
  by_cases hlt : j ≤ p.1.length
  · have e : Las.word p.1 p.2 (j - 1).toNat = some p.1[(j - 1).toNat] := by
      unfold Las.word
      rw [if_pos (by omega), List.getElem?_eq_getElem (by omega)]
    refine ⟨_, e, ?_⟩
    refine call_w lk_entry_at (by show (T.pures (ti p.1) && (T.pures (ti p.2) && true)) = true; rw [pures_ti, pures_ti]; rfl) rfl rfl (fun n => ?_) h
    dsimp only [d_entry_at, List.map_cons, List.map_nil, List.cons_append, List.nil_append, List.append_nil, Nat.reduceSub, Nat.sub_self, List.replicate]
    repeat' (first | ((with_reducible apply w_slot); rfl) | (with_reducible apply w_non) | (with_reducible apply w_bl) | (with_reducible apply w_int) | (with_reducible apply w_str) | (with_reducible apply w_tup) | (with_reducible apply w_lst) | (with_reducible apply w_nil) | (with_reducible apply w_cons) | (with_reducible apply w_star) | (with_reducible apply w_bin) | (with_reducible apply w_cmp) | (with_reducible apply w_chain) | (with_reducible apply w_isN) | (with_reducible apply w_notN) | (with_reducible apply w_andW) | (with_reducible apply w_orW) | (with_reducible apply w_not) | (with_reducible apply w_neg) | (with_reducible apply w_ite) | (with_reducible apply w_f1) | (with_reducible apply w_f2) | (with_reducible apply w_isi) | (with_reducible apply w_ix) | (with_reducible apply w_slAll) | (with_reducible apply w_slL) | (with_reducible apply w_slU) | (with_reducible apply w_slLU) | (with_reducible apply w_pop0) | (with_reducible apply w_meth1) | (with_reducible apply w_lcA) | (with_reducible apply w_lsR1) | (with_reducible apply w_lsR2) | (with_reducible apply w_lsZ) | (with_reducible apply w_srtSet) | (with_reducible apply i_seqW) | (with_reducible apply i_rng1W) | (with_reducible apply i_rng2W) | (with_reducible apply i_enumW) | (with_reducible apply i_zipW) | (with_reducible apply s_exprW) | (with_reducible apply s_retW) | (with_reducible apply s_retNW) | (with_reducible apply s_asgW) | (with_reducible apply s_asgT) | (with_reducible apply s_parW) | (with_reducible apply s_iteW) | (with_reducible apply ss_nilW) | (with_reducible apply ss_consW) | (with_reducible apply w_call) | (with_reducible apply WL.v) | (with_reducible apply WL.l) | ((with_reducible apply exW); (with_reducible refine ix_nat (x := p.1[(j - 1).toNat]) (by omega) (List.getElem?_eq_getElem (by omega)))) | ((with_reducible apply exW); first | (with_reducible exact eq_i) | (with_reducible exact eq_I) | (with_reducible exact ne_I) | (with_reducible exact ne_i) | (with_reducible exact len_I) | (with_reducible exact sl_last) | (with_reducible exact sl_take (by omega)) | (with_reducible exact sl_drop (by omega)) | (with_reducible exact mod_I (by omega)) | (with_reducible exact div_I (by omega) (by omega)) | (with_reducible exact cat_I (by omega))) | ((with_reducible apply fewW); (focus ((show _ ≤ 16777216); simp; done))) | ((with_reducible apply exW2); rfl) | ((with_reducible apply exW); rfl) | (exfalso; revert hk; decide) | (exfalso; revert hk; simp; done) | intro hk)
    all_goals first
      | rfl
      | (exfalso; rw [decide_eq_false_iff_not] at hk; omega)
  · have e0 : (j - (p.1.length : Int) - 1) % (p.2.length : Int) = ((((j - 1).toNat - p.1.length) % p.2.length : Nat) : Int) := by
      rw [Int.natCast_emod]
      congr 1
      omega
    have hlt2 : ((j - 1).toNat - p.1.length) % p.2.length < p.2.length := Nat.mod_lt _ hp
    have e : Las.word p.1 p.2 (j - 1).toNat = some p.2[((j - 1).toNat - p.1.length) % p.2.length] := by
      unfold Las.word
      rw [if_neg (by omega), List.getElem?_eq_getElem hlt2]
    refine ⟨_, e, ?_⟩
    refine call_w lk_entry_at (by show (T.pures (ti p.1) && (T.pures (ti p.2) && true)) = true; rw [pures_ti, pures_ti]; rfl) rfl rfl (fun n => ?_) h
    dsimp only [d_entry_at, List.map_cons, List.map_nil, List.cons_append, List.nil_append, List.append_nil, Nat.reduceSub, Nat.sub_self, List.replicate]
    repeat' (first | ((with_reducible apply w_slot); rfl) | (with_reducible apply w_non) | (with_reducible apply w_bl) | (with_reducible apply w_int) | (with_reducible apply w_str) | (with_reducible apply w_tup) | (with_reducible apply w_lst) | (with_reducible apply w_nil) | (with_reducible apply w_cons) | (with_reducible apply w_star) | (with_reducible apply w_bin) | (with_reducible apply w_cmp) | (with_reducible apply w_chain) | (with_reducible apply w_isN) | (with_reducible apply w_notN) | (with_reducible apply w_andW) | (with_reducible apply w_orW) | (with_reducible apply w_not) | (with_reducible apply w_neg) | (with_reducible apply w_ite) | (with_reducible apply w_f1) | (with_reducible apply w_f2) | (with_reducible apply w_isi) | (with_reducible apply w_ix) | (with_reducible apply w_slAll) | (with_reducible apply w_slL) | (with_reducible apply w_slU) | (with_reducible apply w_slLU) | (with_reducible apply w_pop0) | (with_reducible apply w_meth1) | (with_reducible apply w_lcA) | (with_reducible apply w_lsR1) | (with_reducible apply w_lsR2) | (with_reducible apply w_lsZ) | (with_reducible apply w_srtSet) | (with_reducible apply i_seqW) | (with_reducible apply i_rng1W) | (with_reducible apply i_rng2W) | (with_reducible apply i_enumW) | (with_reducible apply i_zipW) | (with_reducible apply s_exprW) | (with_reducible apply s_retW) | (with_reducible apply s_retNW) | (with_reducible apply s_asgW) | (with_reducible apply s_asgT) | (with_reducible apply s_parW) | (with_reducible apply s_iteW) | (with_reducible apply ss_nilW) | (with_reducible apply ss_consW) | (with_reducible apply w_call) | (with_reducible apply WL.v) | (with_reducible apply WL.l) | ((with_reducible apply exW); first | (with_reducible exact eq_i) | (with_reducible exact eq_I) | (with_reducible exact ne_I) | (with_reducible exact ne_i) | (with_reducible exact len_I) | (with_reducible exact sl_last) | (with_reducible exact sl_take (by omega)) | (with_reducible exact sl_drop (by omega)) | (with_reducible exact mod_I (by omega)) | (with_reducible exact div_I (by omega) (by omega)) | (with_reducible exact cat_I (by omega))) | ((with_reducible apply fewW); (focus ((show _ ≤ 16777216); simp; done))) | ((with_reducible apply exW2); rfl) | ((with_reducible apply exW); rfl) | (exfalso; revert hk; decide) | (exfalso; revert hk; simp; done) | intro hk)
    all_goals first
      | (exfalso; rw [decide_eq_true_eq] at hk; omega)
      | (refine exW (ix_nat (x := p.2[((j - 1).toNat - p.1.length) % p.2.length]) (by rw [e0]; omega) (by rw [e0, Int.toNat_natCast]; exact List.getElem?_eq_getElem hlt2)) ?_
         rfl)
theorem e_many (k : Nat) (j m : Int) (h0 : 0 ≤ j) (h1 : j ≤ m) (h : Hd) : cl (k + 2) "sure_many" [.int j, .int m] h = .ok .non h := by
  refine call_w lk_sure_many rfl rfl rfl (fun n => ?_) h
  dsimp only [d_sure_many, List.map_cons, List.map_nil, List.cons_append, List.nil_append, List.append_nil, Nat.reduceSub, Nat.sub_self, List.replicate]
  repeat' (first | ((with_reducible apply w_slot); rfl) | (with_reducible apply w_non) | (with_reducible apply w_bl) | (with_reducible apply w_int) | (with_reducible apply w_str) | (with_reducible apply w_tup) | (with_reducible apply w_lst) | (with_reducible apply w_nil) | (with_reducible apply w_cons) | (with_reducible apply w_star) | (with_reducible apply w_bin) | (with_reducible apply w_cmp) | (with_reducible apply w_chain) | (with_reducible apply w_isN) | (with_reducible apply w_notN) | (with_reducible apply w_andW) | (with_reducible apply w_orW) | (with_reducible apply w_not) | (with_reducible apply w_neg) | (with_reducible apply w_ite) | (with_reducible apply w_f1) | (with_reducible apply w_f2) | (with_reducible apply w_isi) | (with_reducible apply w_ix) | (with_reducible apply w_slAll) | (with_reducible apply w_slL) | (with_reducible apply w_slU) | (with_reducible apply w_slLU) | (with_reducible apply w_pop0) | (with_reducible apply w_meth1) | (with_reducible apply w_lcA) | (with_reducible apply w_lsR1) | (with_reducible apply w_lsR2) | (with_reducible apply w_lsZ) | (with_reducible apply w_srtSet) | (with_reducible apply i_seqW) | (with_reducible apply i_rng1W) | (with_reducible apply i_rng2W) | (with_reducible apply i_enumW) | (with_reducible apply i_zipW) | (with_reducible apply s_exprW) | (with_reducible apply s_retW) | (with_reducible apply s_retNW) | (with_reducible apply s_asgW) | (with_reducible apply s_asgT) | (with_reducible apply s_parW) | (with_reducible apply s_iteW) | (with_reducible apply ss_nilW) | (with_reducible apply ss_consW) | (with_reducible apply w_call) | (with_reducible apply WL.v) | (with_reducible apply WL.l) | (with_reducible refine WE.eq (e_num _ _ _) ?_) | ((with_reducible apply exW); first | (with_reducible exact eq_i) | (with_reducible exact eq_I) | (with_reducible exact ne_I) | (with_reducible exact ne_i) | (with_reducible exact len_I) | (with_reducible exact sl_last) | (with_reducible exact sl_take (by omega)) | (with_reducible exact sl_drop (by omega)) | (with_reducible exact mod_I (by omega)) | (with_reducible exact div_I (by omega) (by omega)) | (with_reducible exact cat_I (by omega))) | ((with_reducible apply fewW); (focus ((show _ ≤ 16777216); simp; done))) | ((with_reducible apply exW2); rfl) | ((with_reducible apply exW); rfl) | (exfalso; revert hk; decide) | (exfalso; revert hk; simp; done) | intro hk)
  all_goals first
    | rfl
    | (exfalso; simp_all; done)
    | (exfalso; simp_all; omega)
theorem e_spot (k : Nat) (j : Int) (h0 : 1 ≤ j) (h1 : j ≤ 1000000000000000000000000000000) (h : Hd) : cl (k + 3) "sure_spot" [.int j] h = .ok .non h := by
  refine call_w lk_sure_spot rfl rfl rfl (fun n => ?_) h
  dsimp only [d_sure_spot, List.map_cons, List.map_nil, List.cons_append, List.nil_append, List.append_nil, Nat.reduceSub, Nat.sub_self, List.replicate]
  repeat' (first | ((with_reducible apply w_slot); rfl) | (with_reducible apply w_non) | (with_reducible apply w_bl) | (with_reducible apply w_int) | (with_reducible apply w_str) | (with_reducible apply w_tup) | (with_reducible apply w_lst) | (with_reducible apply w_nil) | (with_reducible apply w_cons) | (with_reducible apply w_star) | (with_reducible apply w_bin) | (with_reducible apply w_cmp) | (with_reducible apply w_chain) | (with_reducible apply w_isN) | (with_reducible apply w_notN) | (with_reducible apply w_andW) | (with_reducible apply w_orW) | (with_reducible apply w_not) | (with_reducible apply w_neg) | (with_reducible apply w_ite) | (with_reducible apply w_f1) | (with_reducible apply w_f2) | (with_reducible apply w_isi) | (with_reducible apply w_ix) | (with_reducible apply w_slAll) | (with_reducible apply w_slL) | (with_reducible apply w_slU) | (with_reducible apply w_slLU) | (with_reducible apply w_pop0) | (with_reducible apply w_meth1) | (with_reducible apply w_lcA) | (with_reducible apply w_lsR1) | (with_reducible apply w_lsR2) | (with_reducible apply w_lsZ) | (with_reducible apply w_srtSet) | (with_reducible apply i_seqW) | (with_reducible apply i_rng1W) | (with_reducible apply i_rng2W) | (with_reducible apply i_enumW) | (with_reducible apply i_zipW) | (with_reducible apply s_exprW) | (with_reducible apply s_retW) | (with_reducible apply s_retNW) | (with_reducible apply s_asgW) | (with_reducible apply s_asgT) | (with_reducible apply s_parW) | (with_reducible apply s_iteW) | (with_reducible apply ss_nilW) | (with_reducible apply ss_consW) | (with_reducible apply w_call) | (with_reducible apply WL.v) | (with_reducible apply WL.l) | (with_reducible refine w_glob gl_MOST_PLACE ?_) | ((with_reducible apply WE.cl); (exact e_many k j _ (by omega) h1 _)) | ((with_reducible apply exW); first | (with_reducible exact eq_i) | (with_reducible exact eq_I) | (with_reducible exact ne_I) | (with_reducible exact ne_i) | (with_reducible exact len_I) | (with_reducible exact sl_last) | (with_reducible exact sl_take (by omega)) | (with_reducible exact sl_drop (by omega)) | (with_reducible exact mod_I (by omega)) | (with_reducible exact div_I (by omega) (by omega)) | (with_reducible exact cat_I (by omega))) | ((with_reducible apply fewW); (focus ((show _ ≤ 16777216); simp; done))) | ((with_reducible apply exW2); rfl) | ((with_reducible apply exW); rfl) | (exfalso; revert hk; decide) | (exfalso; revert hk; simp; done) | intro hk)
  all_goals first
    | rfl
    | (exfalso; rw [decide_eq_true_eq] at hk; omega)
theorem pur_li {p : List Int × List Int} {j : Int} : T.pures [las p, .int j] = true := by show ((las p).pure && true) = true; rw [pur_las]; rfl
theorem e_letterAt (k : Nat) (p : List Int × List Int) (ok : Lok p) (j : Int) (hj : 1 ≤ j) (h1 : j ≤ 1000000000000000000000000000000) (h : Hd) : ∃ x, Las.word p.1 p.2 (j - 1).toNat = some x ∧ cl (k + 7) "letter_at" [las p, .int j] h = .ok (.int x) h := by
  obtain ⟨x, hx, _⟩ := e_entry k p ok j hj h
  refine ⟨x, hx, ?_⟩
  have he : ∀ h, cl (k + 5 + 1) "entry_at" [tI p.1, tI p.2, .int j] h = .ok (.int x) h := fun h => by
    obtain ⟨y, hy, e⟩ := e_entry (k + 5) p ok j hj h
    rw [hx] at hy; cases hy
    exact e
  refine call_w lk_letter_at pur_li rfl rfl (fun n => ?_) h
  dsimp only [d_letter_at, List.map_cons, List.map_nil, List.cons_append, List.nil_append, List.append_nil, Nat.reduceSub, Nat.sub_self, List.replicate]
  repeat' (first | ((with_reducible apply w_slot); rfl) | (with_reducible apply w_non) | (with_reducible apply w_bl) | (with_reducible apply w_int) | (with_reducible apply w_str) | (with_reducible apply w_tup) | (with_reducible apply w_lst) | (with_reducible apply w_nil) | (with_reducible apply w_cons) | (with_reducible apply w_star) | (with_reducible apply w_bin) | (with_reducible apply w_cmp) | (with_reducible apply w_chain) | (with_reducible apply w_isN) | (with_reducible apply w_notN) | (with_reducible apply w_andW) | (with_reducible apply w_orW) | (with_reducible apply w_not) | (with_reducible apply w_neg) | (with_reducible apply w_ite) | (with_reducible apply w_f1) | (with_reducible apply w_f2) | (with_reducible apply w_isi) | (with_reducible apply w_ix) | (with_reducible apply w_slAll) | (with_reducible apply w_slL) | (with_reducible apply w_slU) | (with_reducible apply w_slLU) | (with_reducible apply w_pop0) | (with_reducible apply w_meth1) | (with_reducible apply w_lcA) | (with_reducible apply w_lsR1) | (with_reducible apply w_lsR2) | (with_reducible apply w_lsZ) | (with_reducible apply w_srtSet) | (with_reducible apply i_seqW) | (with_reducible apply i_rng1W) | (with_reducible apply i_rng2W) | (with_reducible apply i_enumW) | (with_reducible apply i_zipW) | (with_reducible apply s_exprW) | (with_reducible apply s_retW) | (with_reducible apply s_retNW) | (with_reducible apply s_asgW) | (with_reducible apply s_asgT) | (with_reducible apply s_parW) | (with_reducible apply s_iteW) | (with_reducible apply ss_nilW) | (with_reducible apply ss_consW) | (with_reducible apply w_call) | (with_reducible apply WL.v) | (with_reducible apply WL.l) | (with_reducible refine w_glob gl_MOST_WIDE ?_) | ((with_reducible apply WE.cl); (exact e_sure k p ok _)) | ((with_reducible apply WE.cl); (exact e_spot (k + 3) j hj h1 _)) | ((with_reducible apply WE.cl); (exact he _)) | ((with_reducible apply exW); first | (with_reducible exact eq_i) | (with_reducible exact eq_I) | (with_reducible exact ne_I) | (with_reducible exact ne_i) | (with_reducible exact len_I) | (with_reducible exact sl_last) | (with_reducible exact sl_take (by omega)) | (with_reducible exact sl_drop (by omega)) | (with_reducible exact mod_I (by omega)) | (with_reducible exact div_I (by omega) (by omega)) | (with_reducible exact cat_I (by omega))) | ((with_reducible apply fewW); (focus ((show _ ≤ 16777216); simp; done))) | ((with_reducible apply exW2); rfl) | ((with_reducible apply exW); rfl) | (exfalso; revert hk; decide) | (exfalso; revert hk; simp; done) | intro hk)
  all_goals rfl
end K01
end

section
set_option Elab.async false
set_option linter.all false
set_option maxRecDepth 100000
set_option maxHeartbeats 1000000
namespace K01
open PySem Pv
theorem zipT_ti : ∀ a b : List Int, zipT (ti a) (ti b) = (a.zip b).map fun q => T.tup [.int q.1, .int q.2]
  | [], _ => by simp [ti, zipT]
  | _ :: _, [] => by simp [ti, zipT]
  | x :: a, y :: b => by
    have := zipT_ti a b
    unfold ti at this ⊢
    simp [zipT, this]
theorem allT {α : Type} (l : List α) (f : α → Bool) (h : ∀ x ∈ l, f x = true) {hd : Hd} : op1 .all hd (.l (l.filterMap fun x => some (.bl (f x)))) = some (.v (.bl true)) := by
  rw [all_L, filterMap_some, bls_map]
  show some (VV.v (.bl ((l.map f).all id))) = _
  have : (l.map f).all id = true := by
    rw [List.all_map, List.all_eq_true]
    exact fun x hx => h x hx
  rw [this]
theorem allT2 {α : Type} (l : List α) (f : α → Bool) {hd : Hd} : op1 .all hd (.l (l.filterMap fun x => some (.bl (f x)))) = some (.v (.bl (l.all f))) := by
  rw [all_L, filterMap_some, bls_map]
  show some (VV.v (.bl ((l.map f).all id))) = _
  rw [List.all_map] <;> rfl
theorem biOf_ref {h : Hd} {i : Nat} {o : Ob} (e : h.get i = some o) : biOf h (.v (.ref i)) = some (.lv i) := by
  show (match h.get i with | some _ => some (BI.lv i) | none => none) = _
  rw [e]
/-- own letters, ascending -/
structure Lt (s : List Int) : Prop where
  ne : s ≠ []
  rg : ∀ i ∈ s, 1 ≤ i ∧ i ≤ 3
  up : ∀ q ∈ s.zip (s.drop 1), q.1 < q.2
  ln : s.length ≤ 100
theorem pur_3I {s : List Int} : T.pures [.int 3, tI s] = true := by show (T.pures (ti s) && true) = true; rw [pures_ti]; rfl
theorem pur_I1 {s : List Int} : T.pures [tI s] = true := by show (T.pures (ti s) && true) = true; rw [pures_ti]; rfl
theorem tI_it (s : List Int) : (tI s).it = true := its_ti s
theorem tI_dep (s : List Int) : (tI s).dep ≤ 2 := by have := deps_ti s; show T.deps (ti s) + 1 ≤ 2; omega
theorem tI_wid {s : List Int} (h : s.length ≤ 5000) : wid (tI s) ≤ 5000 := by
  show max (ti s).length (wids (ti s)) ≤ 5000
  rw [wids_ti, ti_length]
  omega
theorem e_letters (k : Nat) (s : List Int) (ok : Lt s) (h : Hd) : cl (k + 4) "is_letters" [.int 3, tI s] h = .ok (.bl true) h := by
  refine call_w lk_is_letters pur_3I rfl rfl (fun m => ?_) h
  dsimp only [d_is_letters, List.map_cons, List.map_nil, List.cons_append, List.nil_append, List.append_nil, Nat.reduceSub, Nat.sub_self, List.replicate]
  have hl := ok.ln
  have hal : (s.all fun i => decide (1 ≤ i) && decide (i ≤ 3)) = true := all_of ok.rg
  have hne : ∀ h, opC .ne h (.v (tI s)) (.v (.tup [])) = some true := fun h => by
    have := ne_I (h := h) (l := s) (m := [])
    rw [decide_eq_false ok.ne] at this
    exact this
  have ht : ∀ h, cl (k + 3) "is_text" [.int 3, tI s] h = .ok (.bl true) h := fun h => by rw [e_text k 3 s (by omega) h, hal]
  repeat' (first | ((with_reducible apply w_slot); rfl) | (with_reducible apply w_non) | (with_reducible apply w_bl) | (with_reducible apply w_int) | (with_reducible apply w_str) | (with_reducible apply w_tup) | (with_reducible apply w_lst) | (with_reducible apply w_nil) | (with_reducible apply w_cons) | (with_reducible apply w_star) | (with_reducible apply w_bin) | (with_reducible apply w_cmp) | (with_reducible apply w_chain) | (with_reducible apply w_isN) | (with_reducible apply w_notN) | (with_reducible apply w_andW) | (with_reducible apply w_orW) | (with_reducible apply w_not) | (with_reducible apply w_neg) | (with_reducible apply w_ite) | (with_reducible apply w_f1) | (with_reducible apply w_f2) | (with_reducible apply w_isi) | (with_reducible apply w_ix) | (with_reducible apply w_slAll) | (with_reducible apply w_slL) | (with_reducible apply w_slU) | (with_reducible apply w_slLU) | (with_reducible apply w_pop0) | (with_reducible apply w_meth1) | (with_reducible apply w_lcA) | (with_reducible apply w_lsR1) | (with_reducible apply w_lsR2) | (with_reducible apply w_lsZ) | (with_reducible apply w_srtSet) | (with_reducible apply i_seqW) | (with_reducible apply i_rng1W) | (with_reducible apply i_rng2W) | (with_reducible apply i_enumW) | (with_reducible apply i_zipW) | (with_reducible apply s_exprW) | (with_reducible apply s_retW) | (with_reducible apply s_retNW) | (with_reducible apply s_asgW) | (with_reducible apply s_asgT) | (with_reducible apply s_parW) | (with_reducible apply s_iteW) | (with_reducible apply ss_nilW) | (with_reducible apply ss_consW) | (with_reducible apply w_call) | (with_reducible apply WL.v) | (with_reducible apply WL.l) | ((with_reducible apply WE.cl); (exact ht _)) | ((with_reducible apply exW); (with_reducible exact hne _)) | ((with_reducible apply exW); first | (with_reducible exact eq_i) | (with_reducible exact eq_I) | (with_reducible exact ne_I) | (with_reducible exact ne_i) | (with_reducible exact len_I) | (with_reducible exact sl_last) | (with_reducible exact sl_take (by omega)) | (with_reducible exact sl_drop (by omega)) | (with_reducible exact mod_I (by omega)) | (with_reducible exact div_I (by omega) (by omega)) | (with_reducible exact cat_I (by omega))) | ((with_reducible apply fewW); (focus ((show _ ≤ 16777216); simp; done))) | ((with_reducible apply exW2); rfl) | ((with_reducible apply exW); rfl) | (exfalso; revert hk; decide) | (exfalso; revert hk; simp; done) | intro hk)
  refine ⟨.tp (ti s), .tp (ti (s.drop 1)), rfl, rfl, rfl, s.zip (s.drop 1), fun q => .tup [.int q.1, .int q.2], fun q => some (.bl (decide (q.1 < q.2))), ?_, ?_, by show 100000 ≤ 16777216; omega, fun q hq => ⟨_, rfl, c_nilW ⟨fun _ => ?_, fun z => by cases z⟩⟩, ?_⟩
  · rw [← zipT_ti]
    exact fix_zip
  · show (s.zip (s.drop 1)).length < 100000
    rw [List.length_zip]
    omega
  · repeat' (first | ((with_reducible apply w_slot); rfl) | (with_reducible apply w_non) | (with_reducible apply w_bl) | (with_reducible apply w_int) | (with_reducible apply w_str) | (with_reducible apply w_tup) | (with_reducible apply w_lst) | (with_reducible apply w_nil) | (with_reducible apply w_cons) | (with_reducible apply w_star) | (with_reducible apply w_bin) | (with_reducible apply w_cmp) | (with_reducible apply w_chain) | (with_reducible apply w_isN) | (with_reducible apply w_notN) | (with_reducible apply w_andW) | (with_reducible apply w_orW) | (with_reducible apply w_not) | (with_reducible apply w_neg) | (with_reducible apply w_ite) | (with_reducible apply w_f1) | (with_reducible apply w_f2) | (with_reducible apply w_isi) | (with_reducible apply w_ix) | (with_reducible apply w_slAll) | (with_reducible apply w_slL) | (with_reducible apply w_slU) | (with_reducible apply w_slLU) | (with_reducible apply w_pop0) | (with_reducible apply w_meth1) | (with_reducible apply w_lcA) | (with_reducible apply w_lsR1) | (with_reducible apply w_lsR2) | (with_reducible apply w_lsZ) | (with_reducible apply w_srtSet) | (with_reducible apply i_seqW) | (with_reducible apply i_rng1W) | (with_reducible apply i_rng2W) | (with_reducible apply i_enumW) | (with_reducible apply i_zipW) | (with_reducible apply s_exprW) | (with_reducible apply s_retW) | (with_reducible apply s_retNW) | (with_reducible apply s_asgW) | (with_reducible apply s_asgT) | (with_reducible apply s_parW) | (with_reducible apply s_iteW) | (with_reducible apply ss_nilW) | (with_reducible apply ss_consW) | (with_reducible apply w_call) | (with_reducible apply WL.v) | (with_reducible apply WL.l) | ((with_reducible apply exW); first | (with_reducible exact eq_i) | (with_reducible exact eq_I) | (with_reducible exact ne_I) | (with_reducible exact ne_i) | (with_reducible exact len_I) | (with_reducible exact sl_last) | (with_reducible exact sl_take (by omega)) | (with_reducible exact sl_drop (by omega)) | (with_reducible exact mod_I (by omega)) | (with_reducible exact div_I (by omega) (by omega)) | (with_reducible exact cat_I (by omega))) | ((with_reducible apply fewW); (focus ((show _ ≤ 16777216); simp; done))) | ((with_reducible apply exW2); rfl) | ((with_reducible apply exW); rfl) | (exfalso; revert hk; decide) | (exfalso; revert hk; simp; done) | intro hk)
    all_goals exact ⟨rfl, rfl⟩
  · refine exW (allT (s.zip (s.drop 1)) (fun q => decide (q.1 < q.2)) fun q hq => decide_eq_true (ok.up q hq)) ?_
    rfl
theorem e_sureL (k : Nat) (s : List Int) (ok : Lt s) (h : Hd) : cl (k + 5) "sure_letters" [tI s] h = .ok (tI s) h := by
  have hl := ok.ln
  refine call_w lk_sure_letters pur_I1 (show (tI s).pure = true from pures_ti s) rfl (fun m => ?_) h
  dsimp only [d_sure_letters, List.map_cons, List.map_nil, List.cons_append, List.nil_append, List.append_nil, Nat.reduceSub, Nat.sub_self, List.replicate]
  repeat' (first | ((with_reducible apply w_slot); rfl) | (with_reducible apply w_non) | (with_reducible apply w_bl) | (with_reducible apply w_int) | (with_reducible apply w_str) | (with_reducible apply w_tup) | (with_reducible apply w_lst) | (with_reducible apply w_nil) | (with_reducible apply w_cons) | (with_reducible apply w_star) | (with_reducible apply w_bin) | (with_reducible apply w_cmp) | (with_reducible apply w_chain) | (with_reducible apply w_isN) | (with_reducible apply w_notN) | (with_reducible apply w_andW) | (with_reducible apply w_orW) | (with_reducible apply w_not) | (with_reducible apply w_neg) | (with_reducible apply w_ite) | (with_reducible apply w_f1) | (with_reducible apply w_f2) | (with_reducible apply w_isi) | (with_reducible apply w_ix) | (with_reducible apply w_slAll) | (with_reducible apply w_slL) | (with_reducible apply w_slU) | (with_reducible apply w_slLU) | (with_reducible apply w_pop0) | (with_reducible apply w_meth1) | (with_reducible apply w_lcA) | (with_reducible apply w_lsR1) | (with_reducible apply w_lsR2) | (with_reducible apply w_lsZ) | (with_reducible apply w_srtSet) | (with_reducible apply i_seqW) | (with_reducible apply i_rng1W) | (with_reducible apply i_rng2W) | (with_reducible apply i_enumW) | (with_reducible apply i_zipW) | (with_reducible apply s_exprW) | (with_reducible apply s_retW) | (with_reducible apply s_retNW) | (with_reducible apply s_asgW) | (with_reducible apply s_asgT) | (with_reducible apply s_parW) | (with_reducible apply s_iteW) | (with_reducible apply ss_nilW) | (with_reducible apply ss_consW) | (with_reducible apply w_call) | (with_reducible apply WL.v) | (with_reducible apply WL.l) | (with_reducible refine w_glob gl_MOST_WIDE ?_) | ((with_reducible apply WE.cl); (exact e_tup 2 (tI s) (tI_it s) (tI_dep s) (tI_wid (by omega)) (k + 2) _)) | ((with_reducible apply WE.cl); (exact e_letters k s ok _)) | ((with_reducible apply exW); first | (with_reducible exact eq_i) | (with_reducible exact eq_I) | (with_reducible exact ne_I) | (with_reducible exact ne_i) | (with_reducible exact len_I) | (with_reducible exact sl_last) | (with_reducible exact sl_take (by omega)) | (with_reducible exact sl_drop (by omega)) | (with_reducible exact mod_I (by omega)) | (with_reducible exact div_I (by omega) (by omega)) | (with_reducible exact cat_I (by omega))) | ((with_reducible apply fewW); (focus ((show _ ≤ 16777216); simp; done))) | ((with_reducible apply exW2); rfl) | ((with_reducible apply exW); rfl) | (exfalso; revert hk; decide) | (exfalso; revert hk; simp; done) | intro hk)
  all_goals rfl
/-- how many of these -/
def cnt (s l : List Int) : Nat := (l.filter fun i => decide (i ∈ s)).length
theorem fm_in (s : List Int) : ∀ l : List Int, l.filterMap (fun i => if i ∈ s then some (T.int i) else none) = ti (l.filter fun i => decide (i ∈ s))
  | [] => rfl
  | i :: l => by
    rw [List.filterMap_cons, List.filter_cons, fm_in s l]
    by_cases h : i ∈ s
    · rw [if_pos h, decide_eq_true h] <;> rfl
    · rw [if_neg h, decide_eq_false h] <;> rfl
theorem pur_II {l s : List Int} : T.pures [tI l, tI s] = true := by show (T.pures (ti l) && (T.pures (ti s) && true)) = true; rw [pures_ti, pures_ti]; rfl
theorem e_count (k : Nat) (l s : List Int) (hl : l.length ≤ 5000) (h : Hd) : cl (k + 1) "count_in" [tI l, tI s] h = .ok (.int (cnt s l : Nat)) h := by
  refine call_w lk_count_in pur_II rfl rfl (fun m => ?_) h
  dsimp only [d_count_in, List.map_cons, List.map_nil, List.cons_append, List.nil_append, List.append_nil, Nat.reduceSub, Nat.sub_self, List.replicate]
  repeat' (first | ((with_reducible apply w_slot); rfl) | (with_reducible apply w_non) | (with_reducible apply w_bl) | (with_reducible apply w_int) | (with_reducible apply w_str) | (with_reducible apply w_tup) | (with_reducible apply w_lst) | (with_reducible apply w_nil) | (with_reducible apply w_cons) | (with_reducible apply w_star) | (with_reducible apply w_bin) | (with_reducible apply w_cmp) | (with_reducible apply w_chain) | (with_reducible apply w_isN) | (with_reducible apply w_notN) | (with_reducible apply w_andW) | (with_reducible apply w_orW) | (with_reducible apply w_not) | (with_reducible apply w_neg) | (with_reducible apply w_ite) | (with_reducible apply w_f1) | (with_reducible apply w_f2) | (with_reducible apply w_isi) | (with_reducible apply w_ix) | (with_reducible apply w_slAll) | (with_reducible apply w_slL) | (with_reducible apply w_slU) | (with_reducible apply w_slLU) | (with_reducible apply w_pop0) | (with_reducible apply w_meth1) | (with_reducible apply w_lcA) | (with_reducible apply w_lsR1) | (with_reducible apply w_lsR2) | (with_reducible apply w_lsZ) | (with_reducible apply w_srtSet) | (with_reducible apply i_seqW) | (with_reducible apply i_rng1W) | (with_reducible apply i_rng2W) | (with_reducible apply i_enumW) | (with_reducible apply i_zipW) | (with_reducible apply s_exprW) | (with_reducible apply s_retW) | (with_reducible apply s_retNW) | (with_reducible apply s_asgW) | (with_reducible apply s_asgT) | (with_reducible apply s_parW) | (with_reducible apply s_iteW) | (with_reducible apply ss_nilW) | (with_reducible apply ss_consW) | (with_reducible apply w_call) | (with_reducible apply WL.v) | (with_reducible apply WL.l) | ((with_reducible apply exW); first | (with_reducible exact eq_i) | (with_reducible exact eq_I) | (with_reducible exact ne_I) | (with_reducible exact ne_i) | (with_reducible exact len_I) | (with_reducible exact sl_last) | (with_reducible exact sl_take (by omega)) | (with_reducible exact sl_drop (by omega)) | (with_reducible exact mod_I (by omega)) | (with_reducible exact div_I (by omega) (by omega)) | (with_reducible exact cat_I (by omega))) | ((with_reducible apply fewW); (focus ((show _ ≤ 16777216); simp; done))) | ((with_reducible apply exW2); rfl) | ((with_reducible apply exW); rfl) | (exfalso; revert hk; decide) | (exfalso; revert hk; simp; done) | intro hk)
  refine ⟨l, T.int, fun i => if i ∈ s then some (.int i) else none, fix_tp, by show l.length < 100000; omega, by show 100000 ≤ 16777216; omega, fun i hi => ⟨_, rfl, c_oneW ?_⟩, ?_⟩
  · repeat' (first | ((with_reducible apply w_slot); rfl) | (with_reducible apply w_non) | (with_reducible apply w_bl) | (with_reducible apply w_int) | (with_reducible apply w_str) | (with_reducible apply w_tup) | (with_reducible apply w_lst) | (with_reducible apply w_nil) | (with_reducible apply w_cons) | (with_reducible apply w_star) | (with_reducible apply w_bin) | (with_reducible apply w_cmp) | (with_reducible apply w_chain) | (with_reducible apply w_isN) | (with_reducible apply w_notN) | (with_reducible apply w_andW) | (with_reducible apply w_orW) | (with_reducible apply w_not) | (with_reducible apply w_neg) | (with_reducible apply w_ite) | (with_reducible apply w_f1) | (with_reducible apply w_f2) | (with_reducible apply w_isi) | (with_reducible apply w_ix) | (with_reducible apply w_slAll) | (with_reducible apply w_slL) | (with_reducible apply w_slU) | (with_reducible apply w_slLU) | (with_reducible apply w_pop0) | (with_reducible apply w_meth1) | (with_reducible apply w_lcA) | (with_reducible apply w_lsR1) | (with_reducible apply w_lsR2) | (with_reducible apply w_lsZ) | (with_reducible apply w_srtSet) | (with_reducible apply i_seqW) | (with_reducible apply i_rng1W) | (with_reducible apply i_rng2W) | (with_reducible apply i_enumW) | (with_reducible apply i_zipW) | (with_reducible apply s_exprW) | (with_reducible apply s_retW) | (with_reducible apply s_retNW) | (with_reducible apply s_asgW) | (with_reducible apply s_asgT) | (with_reducible apply s_parW) | (with_reducible apply s_iteW) | (with_reducible apply ss_nilW) | (with_reducible apply ss_consW) | (with_reducible apply w_call) | (with_reducible apply WL.v) | (with_reducible apply WL.l) | ((with_reducible apply exW); (with_reducible exact in_I rfl)) | ((with_reducible apply exW); first | (with_reducible exact eq_i) | (with_reducible exact eq_I) | (with_reducible exact ne_I) | (with_reducible exact ne_i) | (with_reducible exact len_I) | (with_reducible exact sl_last) | (with_reducible exact sl_take (by omega)) | (with_reducible exact sl_drop (by omega)) | (with_reducible exact mod_I (by omega)) | (with_reducible exact div_I (by omega) (by omega)) | (with_reducible exact cat_I (by omega))) | ((with_reducible apply fewW); (focus ((show _ ≤ 16777216); simp; done))) | ((with_reducible apply exW2); rfl) | ((with_reducible apply exW); rfl) | (exfalso; revert hk; decide) | (exfalso; revert hk; simp; done) | intro hk)
    all_goals first
      | (have e : i ∈ s := of_decide_eq_true hk
         exact ⟨by show some (T.int i) = (if i ∈ s then some (T.int i) else none); rw [if_pos e], rfl⟩)
      | (have e : i ∉ s := of_decide_eq_false hk
         exact ⟨by show none = (if i ∈ s then some (T.int i) else none); rw [if_neg e], rfl⟩)
  · rw [fm_in]
    repeat' (first | ((with_reducible apply w_slot); rfl) | (with_reducible apply w_non) | (with_reducible apply w_bl) | (with_reducible apply w_int) | (with_reducible apply w_str) | (with_reducible apply w_tup) | (with_reducible apply w_lst) | (with_reducible apply w_nil) | (with_reducible apply w_cons) | (with_reducible apply w_star) | (with_reducible apply w_bin) | (with_reducible apply w_cmp) | (with_reducible apply w_chain) | (with_reducible apply w_isN) | (with_reducible apply w_notN) | (with_reducible apply w_andW) | (with_reducible apply w_orW) | (with_reducible apply w_not) | (with_reducible apply w_neg) | (with_reducible apply w_ite) | (with_reducible apply w_f1) | (with_reducible apply w_f2) | (with_reducible apply w_isi) | (with_reducible apply w_ix) | (with_reducible apply w_slAll) | (with_reducible apply w_slL) | (with_reducible apply w_slU) | (with_reducible apply w_slLU) | (with_reducible apply w_pop0) | (with_reducible apply w_meth1) | (with_reducible apply w_lcA) | (with_reducible apply w_lsR1) | (with_reducible apply w_lsR2) | (with_reducible apply w_lsZ) | (with_reducible apply w_srtSet) | (with_reducible apply i_seqW) | (with_reducible apply i_rng1W) | (with_reducible apply i_rng2W) | (with_reducible apply i_enumW) | (with_reducible apply i_zipW) | (with_reducible apply s_exprW) | (with_reducible apply s_retW) | (with_reducible apply s_retNW) | (with_reducible apply s_asgW) | (with_reducible apply s_asgT) | (with_reducible apply s_parW) | (with_reducible apply s_iteW) | (with_reducible apply ss_nilW) | (with_reducible apply ss_consW) | (with_reducible apply w_call) | (with_reducible apply WL.v) | (with_reducible apply WL.l) | ((with_reducible apply exW); first | (with_reducible exact eq_i) | (with_reducible exact eq_I) | (with_reducible exact ne_I) | (with_reducible exact ne_i) | (with_reducible exact len_I) | (with_reducible exact sl_last) | (with_reducible exact sl_take (by omega)) | (with_reducible exact sl_drop (by omega)) | (with_reducible exact mod_I (by omega)) | (with_reducible exact div_I (by omega) (by omega)) | (with_reducible exact cat_I (by omega))) | ((with_reducible apply fewW); (focus ((show _ ≤ 16777216); simp; done))) | ((with_reducible apply exW2); rfl) | ((with_reducible apply exW); rfl) | (exfalso; revert hk; decide) | (exfalso; revert hk; simp; done) | intro hk)
    all_goals (show T.int ((ti (l.filter fun i => decide (i ∈ s))).length : Nat) = _; rw [ti_length]; rfl)
end K01
end

section
set_option Elab.async false
set_option linter.all false
set_option maxRecDepth 100000
set_option maxHeartbeats 1000000
namespace K01
open PySem Pv Las
/-! ### what the program tells of lassos -/
theorem e_lshort (k : Nat) (p : List Int × List Int) (ok : Lok p) (h : Hd) : cl (k + 7) "lasso_short" [las p] h = .ok (las (shortIn p.1 p.2)) h := by
  refine call_w lk_lasso_short pur_l (pur_las _) rfl (fun n => ?_) h
  dsimp only [d_lasso_short, List.map_cons, List.map_nil, List.cons_append, List.nil_append, List.append_nil, Nat.reduceSub, Nat.sub_self, List.replicate]
  repeat' (first | ((with_reducible apply w_slot); rfl) | (with_reducible apply w_non) | (with_reducible apply w_bl) | (with_reducible apply w_int) | (with_reducible apply w_str) | (with_reducible apply w_tup) | (with_reducible apply w_lst) | (with_reducible apply w_nil) | (with_reducible apply w_cons) | (with_reducible apply w_star) | (with_reducible apply w_bin) | (with_reducible apply w_cmp) | (with_reducible apply w_chain) | (with_reducible apply w_isN) | (with_reducible apply w_notN) | (with_reducible apply w_andW) | (with_reducible apply w_orW) | (with_reducible apply w_not) | (with_reducible apply w_neg) | (with_reducible apply w_ite) | (with_reducible apply w_f1) | (with_reducible apply w_f2) | (with_reducible apply w_isi) | (with_reducible apply w_ix) | (with_reducible apply w_slAll) | (with_reducible apply w_slL) | (with_reducible apply w_slU) | (with_reducible apply w_slLU) | (with_reducible apply w_pop0) | (with_reducible apply w_meth1) | (with_reducible apply w_lcA) | (with_reducible apply w_lsR1) | (with_reducible apply w_lsR2) | (with_reducible apply w_lsZ) | (with_reducible apply w_srtSet) | (with_reducible apply i_seqW) | (with_reducible apply i_rng1W) | (with_reducible apply i_rng2W) | (with_reducible apply i_enumW) | (with_reducible apply i_zipW) | (with_reducible apply s_exprW) | (with_reducible apply s_retW) | (with_reducible apply s_retNW) | (with_reducible apply s_asgW) | (with_reducible apply s_asgT) | (with_reducible apply s_parW) | (with_reducible apply s_iteW) | (with_reducible apply ss_nilW) | (with_reducible apply ss_consW) | (with_reducible apply w_call) | (with_reducible apply WL.v) | (with_reducible apply WL.l) | (with_reducible refine w_glob gl_MOST_WIDE ?_) | ((with_reducible apply WE.cl); (exact e_sure k p ok _)) | ((with_reducible apply WE.cl); (exact e_short (k + 4) p.1 p.2 ok.ne ok.l2 ok.l1 _)) | ((with_reducible apply exW); first | (with_reducible exact eq_i) | (with_reducible exact eq_I) | (with_reducible exact ne_I) | (with_reducible exact ne_i) | (with_reducible exact len_I) | (with_reducible exact sl_last) | (with_reducible exact sl_take (by omega)) | (with_reducible exact sl_drop (by omega)) | (with_reducible exact mod_I (by omega)) | (with_reducible exact div_I (by omega) (by omega)) | (with_reducible exact cat_I (by omega))) | ((with_reducible apply fewW); (focus ((show _ ≤ 16777216); simp; done))) | ((with_reducible apply exW2); rfl) | ((with_reducible apply exW); rfl) | (exfalso; revert hk; decide) | (exfalso; revert hk; simp; done) | intro hk)
  all_goals rfl
/-- the first letters -/
def pre (p : List Int × List Int) (m : Nat) : List Int := (List.range m).map fun n => (word p.1 p.2 n).getD 0
theorem fm_pre (p : List Int × List Int) (m : Nat) : (List.range m).filterMap (fun n => some (T.int ((word p.1 p.2 n).getD 0))) = ti (pre p m) := by
  rw [filterMap_some]
  unfold pre ti
  rw [List.map_map] <;> rfl
theorem e_first (k : Nat) (p : List Int × List Int) (ok : Lok p) (m : Nat) (hm : m ≤ 2000) (h : Hd) : cl (k + 2) "first_letters" [las p, .int m] h = .ok (tI (pre p m)) h := by
  obtain ⟨mm, em⟩ : ∃ mm : Int, mm = m := ⟨_, rfl⟩
  rw [← em]
  refine call_w lk_first_letters pur_li (show (tI _).pure = true from pures_ti _) rfl (fun n => ?_) h
  dsimp only [d_first_letters, List.map_cons, List.map_nil, List.cons_append, List.nil_append, List.append_nil, Nat.reduceSub, Nat.sub_self, List.replicate]
  with_reducible apply ss_consW
  with_reducible apply s_retW
  with_reducible apply w_f1
  with_reducible apply w_lcA
  with_reducible apply i_rng2W
  repeat' (first | ((with_reducible apply w_slot); rfl) | (with_reducible apply w_non) | (with_reducible apply w_bl) | (with_reducible apply w_int) | (with_reducible apply w_str) | (with_reducible apply w_tup) | (with_reducible apply w_lst) | (with_reducible apply w_nil) | (with_reducible apply w_cons) | (with_reducible apply w_star) | (with_reducible apply w_bin) | (with_reducible apply w_cmp) | (with_reducible apply w_chain) | (with_reducible apply w_isN) | (with_reducible apply w_notN) | (with_reducible apply w_andW) | (with_reducible apply w_orW) | (with_reducible apply w_not) | (with_reducible apply w_neg) | (with_reducible apply w_ite) | (with_reducible apply w_f1) | (with_reducible apply w_f2) | (with_reducible apply w_isi) | (with_reducible apply w_ix) | (with_reducible apply w_slAll) | (with_reducible apply w_slL) | (with_reducible apply w_slU) | (with_reducible apply w_slLU) | (with_reducible apply w_pop0) | (with_reducible apply w_meth1) | (with_reducible apply w_lcA) | (with_reducible apply w_lsR1) | (with_reducible apply w_lsR2) | (with_reducible apply w_lsZ) | (with_reducible apply w_srtSet) | (with_reducible apply i_seqW) | (with_reducible apply i_rng1W) | (with_reducible apply i_rng2W) | (with_reducible apply i_enumW) | (with_reducible apply i_zipW) | (with_reducible apply s_exprW) | (with_reducible apply s_retW) | (with_reducible apply s_retNW) | (with_reducible apply s_asgW) | (with_reducible apply s_asgT) | (with_reducible apply s_parW) | (with_reducible apply s_iteW) | (with_reducible apply ss_nilW) | (with_reducible apply ss_consW) | (with_reducible apply w_call) | (with_reducible apply WL.v) | (with_reducible apply WL.l) | ((with_reducible apply exW); first | (with_reducible exact eq_i) | (with_reducible exact eq_I) | (with_reducible exact ne_I) | (with_reducible exact ne_i) | (with_reducible exact len_I) | (with_reducible exact sl_last) | (with_reducible exact sl_take (by omega)) | (with_reducible exact sl_drop (by omega)) | (with_reducible exact mod_I (by omega)) | (with_reducible exact div_I (by omega) (by omega)) | (with_reducible exact cat_I (by omega))) | ((with_reducible apply fewW); (focus ((show _ ≤ 16777216); simp; done))) | ((with_reducible apply exW2); rfl) | ((with_reducible apply exW); rfl) | (exfalso; revert hk; decide) | (exfalso; revert hk; simp; done) | intro hk)
  refine ⟨1, mm + 1, rfl, rfl, ?_, List.range m, fun n : Nat => .int (1 + (n : Int)), fun n => some (.int ((word p.1 p.2 n).getD 0)), ?_, ?_, by show 100000 ≤ 16777216; omega, fun j hj => ⟨_, rfl, c_nilW ⟨fun _ => ?_, fun z => by cases z⟩⟩, ?_⟩
  · unfold small62
    simp
    omega
  · rw [show (mm + 1 - 1).toNat = m by omega]
    exact fix_rng
  · rw [List.length_range]
    show m < 100000
    omega
  · obtain ⟨x, hx, ex⟩ := e_entry k p ok (1 + (j : Int)) (by omega) ⟨n, []⟩
    have hx' : word p.1 p.2 j = some x := by rw [← hx]; congr 1; omega
    repeat' (first | ((with_reducible apply w_slot); rfl) | (with_reducible apply w_non) | (with_reducible apply w_bl) | (with_reducible apply w_int) | (with_reducible apply w_str) | (with_reducible apply w_tup) | (with_reducible apply w_lst) | (with_reducible apply w_nil) | (with_reducible apply w_cons) | (with_reducible apply w_star) | (with_reducible apply w_bin) | (with_reducible apply w_cmp) | (with_reducible apply w_chain) | (with_reducible apply w_isN) | (with_reducible apply w_notN) | (with_reducible apply w_andW) | (with_reducible apply w_orW) | (with_reducible apply w_not) | (with_reducible apply w_neg) | (with_reducible apply w_ite) | (with_reducible apply w_f1) | (with_reducible apply w_f2) | (with_reducible apply w_isi) | (with_reducible apply w_ix) | (with_reducible apply w_slAll) | (with_reducible apply w_slL) | (with_reducible apply w_slU) | (with_reducible apply w_slLU) | (with_reducible apply w_pop0) | (with_reducible apply w_meth1) | (with_reducible apply w_lcA) | (with_reducible apply w_lsR1) | (with_reducible apply w_lsR2) | (with_reducible apply w_lsZ) | (with_reducible apply w_srtSet) | (with_reducible apply i_seqW) | (with_reducible apply i_rng1W) | (with_reducible apply i_rng2W) | (with_reducible apply i_enumW) | (with_reducible apply i_zipW) | (with_reducible apply s_exprW) | (with_reducible apply s_retW) | (with_reducible apply s_retNW) | (with_reducible apply s_asgW) | (with_reducible apply s_asgT) | (with_reducible apply s_parW) | (with_reducible apply s_iteW) | (with_reducible apply ss_nilW) | (with_reducible apply ss_consW) | (with_reducible apply w_call) | (with_reducible apply WL.v) | (with_reducible apply WL.l) | ((with_reducible apply WE.cl); (exact ex)) | ((with_reducible apply exW); first | (with_reducible exact eq_i) | (with_reducible exact eq_I) | (with_reducible exact ne_I) | (with_reducible exact ne_i) | (with_reducible exact len_I) | (with_reducible exact sl_last) | (with_reducible exact sl_take (by omega)) | (with_reducible exact sl_drop (by omega)) | (with_reducible exact mod_I (by omega)) | (with_reducible exact div_I (by omega) (by omega)) | (with_reducible exact cat_I (by omega))) | ((with_reducible apply fewW); (focus ((show _ ≤ 16777216); simp; done))) | ((with_reducible apply exW2); rfl) | ((with_reducible apply exW); rfl) | (exfalso; revert hk; decide) | (exfalso; revert hk; simp; done) | intro hk)
    all_goals exact ⟨by show some (T.int x) = some (T.int ((word p.1 p.2 j).getD 0)); rw [hx']; rfl, rfl⟩
  · rw [fm_pre]
    repeat' (first | ((with_reducible apply w_slot); rfl) | (with_reducible apply w_non) | (with_reducible apply w_bl) | (with_reducible apply w_int) | (with_reducible apply w_str) | (with_reducible apply w_tup) | (with_reducible apply w_lst) | (with_reducible apply w_nil) | (with_reducible apply w_cons) | (with_reducible apply w_star) | (with_reducible apply w_bin) | (with_reducible apply w_cmp) | (with_reducible apply w_chain) | (with_reducible apply w_isN) | (with_reducible apply w_notN) | (with_reducible apply w_andW) | (with_reducible apply w_orW) | (with_reducible apply w_not) | (with_reducible apply w_neg) | (with_reducible apply w_ite) | (with_reducible apply w_f1) | (with_reducible apply w_f2) | (with_reducible apply w_isi) | (with_reducible apply w_ix) | (with_reducible apply w_slAll) | (with_reducible apply w_slL) | (with_reducible apply w_slU) | (with_reducible apply w_slLU) | (with_reducible apply w_pop0) | (with_reducible apply w_meth1) | (with_reducible apply w_lcA) | (with_reducible apply w_lsR1) | (with_reducible apply w_lsR2) | (with_reducible apply w_lsZ) | (with_reducible apply w_srtSet) | (with_reducible apply i_seqW) | (with_reducible apply i_rng1W) | (with_reducible apply i_rng2W) | (with_reducible apply i_enumW) | (with_reducible apply i_zipW) | (with_reducible apply s_exprW) | (with_reducible apply s_retW) | (with_reducible apply s_retNW) | (with_reducible apply s_asgW) | (with_reducible apply s_asgT) | (with_reducible apply s_parW) | (with_reducible apply s_iteW) | (with_reducible apply ss_nilW) | (with_reducible apply ss_consW) | (with_reducible apply w_call) | (with_reducible apply WL.v) | (with_reducible apply WL.l) | ((with_reducible apply exW); first | (with_reducible exact eq_i) | (with_reducible exact eq_I) | (with_reducible exact ne_I) | (with_reducible exact ne_i) | (with_reducible exact len_I) | (with_reducible exact sl_last) | (with_reducible exact sl_take (by omega)) | (with_reducible exact sl_drop (by omega)) | (with_reducible exact mod_I (by omega)) | (with_reducible exact div_I (by omega) (by omega)) | (with_reducible exact cat_I (by omega))) | ((with_reducible apply fewW); (focus ((show _ ≤ 16777216); simp; done))) | ((with_reducible apply exW2); rfl) | ((with_reducible apply exW); rfl) | (exfalso; revert hk; decide) | (exfalso; revert hk; simp; done) | intro hk)
    all_goals rfl
theorem e_begin (k : Nat) (p : List Int × List Int) (ok : Lok p) (m : Nat) (hm : m ≤ 2000) (h : Hd) : cl (k + 7) "beginning" [las p, .int m] h = .ok (tI (pre p m)) h := by
  obtain ⟨mm, em⟩ : ∃ mm : Int, mm = m := ⟨_, rfl⟩
  have hf : ∀ h, cl (k + 4 + 2) "first_letters" [las p, .int mm] h = .ok (tI (pre p m)) h := fun h => by rw [em]; exact e_first (k + 4) p ok m hm h
  rw [← em]
  refine call_w lk_beginning pur_li (show (tI _).pure = true from pures_ti _) rfl (fun n => ?_) h
  dsimp only [d_beginning, List.map_cons, List.map_nil, List.cons_append, List.nil_append, List.append_nil, Nat.reduceSub, Nat.sub_self, List.replicate]
  repeat' (first | ((with_reducible apply w_slot); rfl) | (with_reducible apply w_non) | (with_reducible apply w_bl) | (with_reducible apply w_int) | (with_reducible apply w_str) | (with_reducible apply w_tup) | (with_reducible apply w_lst) | (with_reducible apply w_nil) | (with_reducible apply w_cons) | (with_reducible apply w_star) | (with_reducible apply w_bin) | (with_reducible apply w_cmp) | (with_reducible apply w_chain) | (with_reducible apply w_isN) | (with_reducible apply w_notN) | (with_reducible apply w_andW) | (with_reducible apply w_orW) | (with_reducible apply w_not) | (with_reducible apply w_neg) | (with_reducible apply w_ite) | (with_reducible apply w_f1) | (with_reducible apply w_f2) | (with_reducible apply w_isi) | (with_reducible apply w_ix) | (with_reducible apply w_slAll) | (with_reducible apply w_slL) | (with_reducible apply w_slU) | (with_reducible apply w_slLU) | (with_reducible apply w_pop0) | (with_reducible apply w_meth1) | (with_reducible apply w_lcA) | (with_reducible apply w_lsR1) | (with_reducible apply w_lsR2) | (with_reducible apply w_lsZ) | (with_reducible apply w_srtSet) | (with_reducible apply i_seqW) | (with_reducible apply i_rng1W) | (with_reducible apply i_rng2W) | (with_reducible apply i_enumW) | (with_reducible apply i_zipW) | (with_reducible apply s_exprW) | (with_reducible apply s_retW) | (with_reducible apply s_retNW) | (with_reducible apply s_asgW) | (with_reducible apply s_asgT) | (with_reducible apply s_parW) | (with_reducible apply s_iteW) | (with_reducible apply ss_nilW) | (with_reducible apply ss_consW) | (with_reducible apply w_call) | (with_reducible apply WL.v) | (with_reducible apply WL.l) | (with_reducible first | refine w_glob gl_MOST_WIDE ?_ | refine w_glob gl_MOST_BEGINNING ?_) | ((with_reducible apply WE.cl); (exact e_sure k p ok _)) | ((with_reducible apply WE.cl); (exact e_many (k + 4) mm 2000 (by omega) (by omega) _)) | ((with_reducible apply WE.cl); (exact hf _)) | ((with_reducible apply exW); first | (with_reducible exact eq_i) | (with_reducible exact eq_I) | (with_reducible exact ne_I) | (with_reducible exact ne_i) | (with_reducible exact len_I) | (with_reducible exact sl_last) | (with_reducible exact sl_take (by omega)) | (with_reducible exact sl_drop (by omega)) | (with_reducible exact mod_I (by omega)) | (with_reducible exact div_I (by omega) (by omega)) | (with_reducible exact cat_I (by omega))) | ((with_reducible apply fewW); (focus ((show _ ≤ 16777216); simp; done))) | ((with_reducible apply exW2); rfl) | ((with_reducible apply exW); rfl) | (exfalso; revert hk; decide) | (exfalso; revert hk; simp; done) | intro hk)
  all_goals rfl
/-- what lies behind -/
def behind (p : List Int × List Int) (m : Int) : List Int × List Int := if m ≤ p.1.length then shortIn (p.1.drop m.toNat) p.2 else shortIn [] (p.2.drop ((m - p.1.length) % p.2.length).toNat ++ p.2.take ((m - p.1.length) % p.2.length).toNat)
theorem e_moved (k : Nat) (p : List Int × List Int) (ok : Lok p) (m : Int) (h0 : 0 ≤ m) (h1 : m ≤ 1000000000000000000000000000000) (h : Hd) : cl (k + 7) "moved_on" [las p, .int m] h = .ok (las (behind p m)) h := by
  have hp : 0 < p.2.length := List.length_pos_iff.mpr ok.ne
  have hl1 := ok.l1
  have hl2 := ok.l2
  refine call_w lk_moved_on pur_li (pur_las _) rfl (fun n => ?_) h
  dsimp only [d_moved_on, List.map_cons, List.map_nil, List.cons_append, List.nil_append, List.append_nil, Nat.reduceSub, Nat.sub_self, List.replicate]
  have hr0 : 0 ≤ (m - (p.1.length : Int)) % (p.2.length : Int) := Int.emod_nonneg _ (by omega)
  have hr1 : (m - (p.1.length : Int)) % (p.2.length : Int) < p.2.length := Int.emod_lt_of_pos _ (by omega)
  have f1 : ∀ h, opB .add h (.v (tI (p.2.drop ((m - (p.1.length : Int)) % (p.2.length : Int)).toNat))) (.v (tI (p.2.take ((m - (p.1.length : Int)) % (p.2.length : Int)).toNat))) = some (.v (tI (p.2.drop ((m - (p.1.length : Int)) % (p.2.length : Int)).toNat ++ p.2.take ((m - (p.1.length : Int)) % (p.2.length : Int)).toNat))) := fun h => cat_I (by rw [List.length_drop, List.length_take]; omega)
  have s1 : ∀ h, cl (k + 4 + 2) "short_in" [tI (p.1.drop m.toNat), tI p.2] h = .ok (las (shortIn (p.1.drop m.toNat) p.2)) h := fun h => e_short (k + 4) _ _ ok.ne hl2 (by rw [List.length_drop]; omega) h
  have hne : p.2.drop ((m - (p.1.length : Int)) % (p.2.length : Int)).toNat ++ p.2.take ((m - (p.1.length : Int)) % (p.2.length : Int)).toNat ≠ [] := fun z => by
    have e0 := congrArg List.length z
    rw [List.length_append, List.length_drop, List.length_take] at e0
    have e0 : p.2.length - ((m - (p.1.length : Int)) % (p.2.length : Int)).toNat + min ((m - (p.1.length : Int)) % (p.2.length : Int)).toNat p.2.length = 0 := e0
    omega
  have s2 : ∀ h, cl (k + 4 + 2) "short_in" [.tup [], tI (p.2.drop ((m - (p.1.length : Int)) % (p.2.length : Int)).toNat ++ p.2.take ((m - (p.1.length : Int)) % (p.2.length : Int)).toNat)] h = .ok (las (shortIn [] (p.2.drop ((m - (p.1.length : Int)) % (p.2.length : Int)).toNat ++ p.2.take ((m - (p.1.length : Int)) % (p.2.length : Int)).toNat))) h := fun h => e_short (k + 4) [] _ hne (by rw [List.length_append, List.length_drop, List.length_take]; omega) (by show 0 ≤ 900; omega) h
  repeat' (first | ((with_reducible apply w_slot); rfl) | (with_reducible apply w_non) | (with_reducible apply w_bl) | (with_reducible apply w_int) | (with_reducible apply w_str) | (with_reducible apply w_tup) | (with_reducible apply w_lst) | (with_reducible apply w_nil) | (with_reducible apply w_cons) | (with_reducible apply w_star) | (with_reducible apply w_bin) | (with_reducible apply w_cmp) | (with_reducible apply w_chain) | (with_reducible apply w_isN) | (with_reducible apply w_notN) | (with_reducible apply w_andW) | (with_reducible apply w_orW) | (with_reducible apply w_not) | (with_reducible apply w_neg) | (with_reducible apply w_ite) | (with_reducible apply w_f1) | (with_reducible apply w_f2) | (with_reducible apply w_isi) | (with_reducible apply w_ix) | (with_reducible apply w_slAll) | (with_reducible apply w_slL) | (with_reducible apply w_slU) | (with_reducible apply w_slLU) | (with_reducible apply w_pop0) | (with_reducible apply w_meth1) | (with_reducible apply w_lcA) | (with_reducible apply w_lsR1) | (with_reducible apply w_lsR2) | (with_reducible apply w_lsZ) | (with_reducible apply w_srtSet) | (with_reducible apply i_seqW) | (with_reducible apply i_rng1W) | (with_reducible apply i_rng2W) | (with_reducible apply i_enumW) | (with_reducible apply i_zipW) | (with_reducible apply s_exprW) | (with_reducible apply s_retW) | (with_reducible apply s_retNW) | (with_reducible apply s_asgW) | (with_reducible apply s_asgT) | (with_reducible apply s_parW) | (with_reducible apply s_iteW) | (with_reducible apply ss_nilW) | (with_reducible apply ss_consW) | (with_reducible apply w_call) | (with_reducible apply WL.v) | (with_reducible apply WL.l) | (with_reducible first | refine w_glob gl_MOST_WIDE ?_ | refine w_glob gl_MOST_PLACE ?_) | ((with_reducible apply WE.cl); (exact e_sure k p ok _)) | ((with_reducible apply WE.cl); (exact e_many (k + 4) m _ h0 h1 _)) | ((with_reducible apply WE.cl); (exact s1 _)) | ((with_reducible apply WE.cl); (exact s2 _)) | ((with_reducible apply exW); (with_reducible exact f1 _)) | ((with_reducible apply exW); first | (with_reducible exact eq_i) | (with_reducible exact eq_I) | (with_reducible exact ne_I) | (with_reducible exact ne_i) | (with_reducible exact len_I) | (with_reducible exact sl_last) | (with_reducible exact sl_take (by omega)) | (with_reducible exact sl_drop (by omega)) | (with_reducible exact mod_I (by omega)) | (with_reducible exact div_I (by omega) (by omega)) | (with_reducible exact cat_I (by omega))) | ((with_reducible apply fewW); (focus ((show _ ≤ 16777216); simp; done))) | ((with_reducible apply exW2); rfl) | ((with_reducible apply exW); rfl) | (exfalso; revert hk; decide) | (exfalso; revert hk; simp; done) | intro hk)
  all_goals first
    | (show las _ = las (behind p m); unfold behind; rw [if_pos (of_decide_eq_true hk)]; done)
    | (show las _ = las (behind p m); unfold behind; rw [if_neg (of_decide_eq_false hk)]; done)
theorem pur_Il {t : List Int} {p : List Int × List Int} : T.pures [tI t, las p] = true := by show (T.pures (ti t) && ((las p).pure && true)) = true; rw [pures_ti, pur_las]; rfl
theorem e_putah (k : Nat) (t : List Int) (ht : ∀ i ∈ t, 1 ≤ i ∧ i ≤ 3) (lt : t.length ≤ 100) (p : List Int × List Int) (ok : Lok p) (l1 : p.1.length ≤ 100) (h : Hd) : cl (k + 7) "put_ahead" [tI t, las p] h = .ok (las (shortIn (t ++ p.1) p.2)) h := by
  refine call_w lk_put_ahead pur_Il (pur_las _) rfl (fun n => ?_) h
  dsimp only [d_put_ahead, List.map_cons, List.map_nil, List.cons_append, List.nil_append, List.append_nil, Nat.reduceSub, Nat.sub_self, List.replicate]
  have hal : (t.all fun i => decide (1 ≤ i) && decide (i ≤ 3)) = true := all_of ht
  have htx : ∀ h, cl (k + 3 + 3) "is_text" [.int 3, tI t] h = .ok (.bl true) h := fun h => by rw [e_text (k + 3) 3 t (by omega) h, hal]
  have f1 : ∀ h, opB .add h (.v (tI t)) (.v (tI p.1)) = some (.v (tI (t ++ p.1))) := fun h => cat_I (by omega)
  have s1 : ∀ h, cl (k + 4 + 2) "short_in" [tI (t ++ p.1), tI p.2] h = .ok (las (shortIn (t ++ p.1) p.2)) h := fun h => e_short (k + 4) _ _ ok.ne ok.l2 (by rw [List.length_append]; omega) h
  repeat' (first | ((with_reducible apply w_slot); rfl) | (with_reducible apply w_non) | (with_reducible apply w_bl) | (with_reducible apply w_int) | (with_reducible apply w_str) | (with_reducible apply w_tup) | (with_reducible apply w_lst) | (with_reducible apply w_nil) | (with_reducible apply w_cons) | (with_reducible apply w_star) | (with_reducible apply w_bin) | (with_reducible apply w_cmp) | (with_reducible apply w_chain) | (with_reducible apply w_isN) | (with_reducible apply w_notN) | (with_reducible apply w_andW) | (with_reducible apply w_orW) | (with_reducible apply w_not) | (with_reducible apply w_neg) | (with_reducible apply w_ite) | (with_reducible apply w_f1) | (with_reducible apply w_f2) | (with_reducible apply w_isi) | (with_reducible apply w_ix) | (with_reducible apply w_slAll) | (with_reducible apply w_slL) | (with_reducible apply w_slU) | (with_reducible apply w_slLU) | (with_reducible apply w_pop0) | (with_reducible apply w_meth1) | (with_reducible apply w_lcA) | (with_reducible apply w_lsR1) | (with_reducible apply w_lsR2) | (with_reducible apply w_lsZ) | (with_reducible apply w_srtSet) | (with_reducible apply i_seqW) | (with_reducible apply i_rng1W) | (with_reducible apply i_rng2W) | (with_reducible apply i_enumW) | (with_reducible apply i_zipW) | (with_reducible apply s_exprW) | (with_reducible apply s_retW) | (with_reducible apply s_retNW) | (with_reducible apply s_asgW) | (with_reducible apply s_asgT) | (with_reducible apply s_parW) | (with_reducible apply s_iteW) | (with_reducible apply ss_nilW) | (with_reducible apply ss_consW) | (with_reducible apply w_call) | (with_reducible apply WL.v) | (with_reducible apply WL.l) | (with_reducible refine w_glob gl_MOST_WIDE ?_) | ((with_reducible apply WE.cl); (exact e_sure k p ok _)) | ((with_reducible apply WE.cl); (exact e_tup 2 (tI t) (tI_it t) (tI_dep t) (tI_wid (by omega)) (k + 4) _)) | ((with_reducible apply WE.cl); (exact htx _)) | ((with_reducible apply WE.cl); (exact s1 _)) | ((with_reducible apply exW); (with_reducible exact f1 _)) | ((with_reducible apply exW); first | (with_reducible exact eq_i) | (with_reducible exact eq_I) | (with_reducible exact ne_I) | (with_reducible exact ne_i) | (with_reducible exact len_I) | (with_reducible exact sl_last) | (with_reducible exact sl_take (by omega)) | (with_reducible exact sl_drop (by omega)) | (with_reducible exact mod_I (by omega)) | (with_reducible exact div_I (by omega) (by omega)) | (with_reducible exact cat_I (by omega))) | ((with_reducible apply fewW); (focus ((show _ ≤ 16777216); simp; done))) | ((with_reducible apply exW2); rfl) | ((with_reducible apply exW); rfl) | (exfalso; revert hk; decide) | (exfalso; revert hk; simp; done) | intro hk)
  all_goals rfl
/-- the letters that come, and those that come for ever -/
theorem srtS_I {h : Hd} {l : List Int} (hl : l.length < 64) : srtS h (.v (tI l)) = some (.l (ti (sortI (dedI l)))) := by
  show (match intsT (ti l) with | some ns => if ns.length < 64 then some (VV.l ((sortI (dedI ns)).map .int)) else none | none => none) = _
  rw [intsT_ti]
  show (if l.length < 64 then some (VV.l ((sortI (dedI l)).map .int)) else none) = _
  rw [if_pos hl] <;> rfl
def setS (l : List Int) : List Int := sortI (dedI l)
def lts (p : List Int × List Int) : T := .tup [tI (setS (p.1 ++ p.2)), tI (setS p.2)]
theorem e_endless (k : Nat) (p : List Int × List Int) (ok : Lok p) (hl : p.1.length + p.2.length < 64) (h : Hd) : cl (k + 7) "endless_letters" [las p] h = .ok (lts p) h := by
  refine call_w lk_endless_letters pur_l (show (lts p).pure = true by show (T.pures (ti _) && (T.pures (ti _) && true)) = true; rw [pures_ti, pures_ti]; rfl) rfl (fun n => ?_) h
  dsimp only [d_endless_letters, List.map_cons, List.map_nil, List.cons_append, List.nil_append, List.append_nil, Nat.reduceSub, Nat.sub_self, List.replicate]
  have f1 : ∀ h, opB .add h (.v (tI p.1)) (.v (tI p.2)) = some (.v (tI (p.1 ++ p.2))) := fun h => cat_I (by omega)
  have g1 : ∀ h, srtS h (.v (tI (p.1 ++ p.2))) = some (.l (ti (setS (p.1 ++ p.2)))) := fun h => srtS_I (by rw [List.length_append]; exact hl)
  have g2 : ∀ h, srtS h (.v (tI p.2)) = some (.l (ti (setS p.2))) := fun h => srtS_I (by omega)
  repeat' (first | ((with_reducible apply w_slot); rfl) | (with_reducible apply w_non) | (with_reducible apply w_bl) | (with_reducible apply w_int) | (with_reducible apply w_str) | (with_reducible apply w_tup) | (with_reducible apply w_lst) | (with_reducible apply w_nil) | (with_reducible apply w_cons) | (with_reducible apply w_star) | (with_reducible apply w_bin) | (with_reducible apply w_cmp) | (with_reducible apply w_chain) | (with_reducible apply w_isN) | (with_reducible apply w_notN) | (with_reducible apply w_andW) | (with_reducible apply w_orW) | (with_reducible apply w_not) | (with_reducible apply w_neg) | (with_reducible apply w_ite) | (with_reducible apply w_f1) | (with_reducible apply w_f2) | (with_reducible apply w_isi) | (with_reducible apply w_ix) | (with_reducible apply w_slAll) | (with_reducible apply w_slL) | (with_reducible apply w_slU) | (with_reducible apply w_slLU) | (with_reducible apply w_pop0) | (with_reducible apply w_meth1) | (with_reducible apply w_lcA) | (with_reducible apply w_lsR1) | (with_reducible apply w_lsR2) | (with_reducible apply w_lsZ) | (with_reducible apply w_srtSet) | (with_reducible apply i_seqW) | (with_reducible apply i_rng1W) | (with_reducible apply i_rng2W) | (with_reducible apply i_enumW) | (with_reducible apply i_zipW) | (with_reducible apply s_exprW) | (with_reducible apply s_retW) | (with_reducible apply s_retNW) | (with_reducible apply s_asgW) | (with_reducible apply s_asgT) | (with_reducible apply s_parW) | (with_reducible apply s_iteW) | (with_reducible apply ss_nilW) | (with_reducible apply ss_consW) | (with_reducible apply w_call) | (with_reducible apply WL.v) | (with_reducible apply WL.l) | (with_reducible refine w_glob gl_MOST_WIDE ?_) | ((with_reducible apply WE.cl); (exact e_sure k p ok _)) | ((with_reducible apply exW); (with_reducible first | exact f1 _ | exact g1 _ | exact g2 _)) | ((with_reducible apply exW); first | (with_reducible exact eq_i) | (with_reducible exact eq_I) | (with_reducible exact ne_I) | (with_reducible exact ne_i) | (with_reducible exact len_I) | (with_reducible exact sl_last) | (with_reducible exact sl_take (by omega)) | (with_reducible exact sl_drop (by omega)) | (with_reducible exact mod_I (by omega)) | (with_reducible exact div_I (by omega) (by omega)) | (with_reducible exact cat_I (by omega))) | ((with_reducible apply fewW); (focus ((show _ ≤ 16777216); simp; done))) | ((with_reducible apply exW2); rfl) | ((with_reducible apply exW); rfl) | (exfalso; revert hk; decide) | (exfalso; revert hk; simp; done) | intro hk)
  all_goals rfl
end K01
end

section
set_option Elab.async false
set_option linter.all false
set_option maxRecDepth 100000
set_option maxHeartbeats 1000000
namespace K01
open PySem Pv Las
/-! ### counting, the next one, where two part -/
def often (p : List Int × List Int) (s : List Int) (m : Int) : Int := if m ≤ p.1.length then cnt s (p.1.take m.toNat) else cnt s p.1 + (m - p.1.length) / p.2.length * cnt s p.2 + cnt s (p.2.take ((m - p.1.length) % p.2.length).toNat)
theorem cnt_le (s l : List Int) : cnt s l ≤ l.length := List.length_filter_le _ _
theorem pur_lIi {p : List Int × List Int} {s : List Int} {m : Int} : T.pures [las p, tI s, .int m] = true := by show ((las p).pure && (T.pures (ti s) && true)) = true; rw [pur_las, pures_ti]; rfl
/-- the def's run, whatever way the letters are told -/
theorem e_oftenW (k : Nat) (p : List Int × List Int) (ok : Lok p) (s : List Int) (ls : s.length ≤ 100) (m : Int) (h0 : 0 ≤ m) (h1 : m ≤ 1000000000000000000000000000000) (S : T) (h : Hd) (hS : cl (k + 6) "sure_letters" [S] h = .ok (tI s) h) :
    WS (evSs (Pk (k + 6)) d_how_often_to.body [some (las p), some S, some (.int m), none, none, none, none, none, none] h) ⟨fun _ h' => T.non = .int (often p s m) ∧ h' = h, fun t h' => t = .int (often p s m) ∧ h' = h, fun _ _ => False, fun _ _ => False⟩ := by
  have hp : 0 < p.2.length := List.length_pos_iff.mpr ok.ne
  have hl1 := ok.l1
  have hl2 := ok.l2
  dsimp only [d_how_often_to, List.map_cons, List.map_nil, List.cons_append, List.nil_append, List.append_nil, Nat.reduceSub, Nat.sub_self, List.replicate]
  have hr0 : 0 ≤ (m - (p.1.length : Int)) % (p.2.length : Int) := Int.emod_nonneg _ (by omega)
  have hr1 : (m - (p.1.length : Int)) % (p.2.length : Int) < p.2.length := Int.emod_lt_of_pos _ (by omega)
  have c1 : ∀ h, cl (k + 5 + 1) "count_in" [tI (p.1.take m.toNat), tI s] h = .ok (.int (cnt s (p.1.take m.toNat) : Nat)) h := fun h => e_count (k + 5) _ s (by rw [List.length_take]; omega) h
  have c2 : ∀ h, cl (k + 5 + 1) "count_in" [tI p.1, tI s] h = .ok (.int (cnt s p.1 : Nat)) h := fun h => e_count (k + 5) _ s (by omega) h
  obtain ⟨c, hc⟩ : ∃ c : Int, c = (cnt s p.2 : Nat) := ⟨_, rfl⟩
  have hcl := cnt_le s p.2
  have c3 : ∀ h, cl (k + 5 + 1) "count_in" [tI p.2, tI s] h = .ok (.int c) h := fun h => by rw [hc]; exact e_count (k + 5) _ s (by omega) h
  have c4 : ∀ h, cl (k + 5 + 1) "count_in" [tI (p.2.take ((m - (p.1.length : Int)) % (p.2.length : Int)).toNat), tI s] h = .ok (.int (cnt s (p.2.take ((m - (p.1.length : Int)) % (p.2.length : Int)).toNat) : Nat)) h := fun h => e_count (k + 5) _ s (by rw [List.length_take]; omega) h
  have hmul : ∀ (i : Int) (h : Hd), opB .mul h (.v (.int i)) (.v (.int c)) = some (.v (.int (i * c))) := fun i h => mul_I (smallI_of (by omega) (by omega))
  repeat' (first | ((with_reducible apply w_slot); rfl) | (with_reducible apply w_non) | (with_reducible apply w_bl) | (with_reducible apply w_int) | (with_reducible apply w_str) | (with_reducible apply w_tup) | (with_reducible apply w_lst) | (with_reducible apply w_nil) | (with_reducible apply w_cons) | (with_reducible apply w_star) | (with_reducible apply w_bin) | (with_reducible apply w_cmp) | (with_reducible apply w_chain) | (with_reducible apply w_isN) | (with_reducible apply w_notN) | (with_reducible apply w_andW) | (with_reducible apply w_orW) | (with_reducible apply w_not) | (with_reducible apply w_neg) | (with_reducible apply w_ite) | (with_reducible apply w_f1) | (with_reducible apply w_f2) | (with_reducible apply w_isi) | (with_reducible apply w_ix) | (with_reducible apply w_slAll) | (with_reducible apply w_slL) | (with_reducible apply w_slU) | (with_reducible apply w_slLU) | (with_reducible apply w_pop0) | (with_reducible apply w_meth1) | (with_reducible apply w_lcA) | (with_reducible apply w_lsR1) | (with_reducible apply w_lsR2) | (with_reducible apply w_lsZ) | (with_reducible apply w_srtSet) | (with_reducible apply i_seqW) | (with_reducible apply i_rng1W) | (with_reducible apply i_rng2W) | (with_reducible apply i_enumW) | (with_reducible apply i_zipW) | (with_reducible apply s_exprW) | (with_reducible apply s_retW) | (with_reducible apply s_retNW) | (with_reducible apply s_asgW) | (with_reducible apply s_asgT) | (with_reducible apply s_parW) | (with_reducible apply s_iteW) | (with_reducible apply ss_nilW) | (with_reducible apply ss_consW) | (with_reducible apply w_call) | (with_reducible apply WL.v) | (with_reducible apply WL.l) | (with_reducible first | refine w_glob gl_MOST_WIDE ?_ | refine w_glob gl_MOST_PLACE ?_) | ((with_reducible apply WE.cl); (exact e_sure k p ok _)) | ((with_reducible apply WE.cl); (exact hS)) | ((with_reducible apply WE.cl); (exact e_many (k + 4) m _ h0 h1 _)) | ((with_reducible apply WE.cl); (exact c1 _)) | ((with_reducible apply WE.cl); (exact c2 _)) | ((with_reducible apply WE.cl); (exact c3 _)) | ((with_reducible apply WE.cl); (exact c4 _)) | ((with_reducible apply exW); (with_reducible exact hmul _ _)) | ((with_reducible apply exW); first | (with_reducible exact eq_i) | (with_reducible exact eq_I) | (with_reducible exact ne_I) | (with_reducible exact ne_i) | (with_reducible exact len_I) | (with_reducible exact sl_last) | (with_reducible exact sl_take (by omega)) | (with_reducible exact sl_drop (by omega)) | (with_reducible exact mod_I (by omega)) | (with_reducible exact div_I (by omega) (by omega)) | (with_reducible exact cat_I (by omega))) | ((with_reducible apply fewW); (focus ((show _ ≤ 16777216); simp; done))) | ((with_reducible apply exW2); rfl) | ((with_reducible apply exW); rfl) | (exfalso; revert hk; decide) | (exfalso; revert hk; simp; done) | intro hk)
  all_goals first
    | (refine ⟨?_, rfl⟩; show T.int _ = T.int (often p s m); unfold often; rw [if_pos (of_decide_eq_true hk)]; done)
    | (refine ⟨?_, rfl⟩; show T.int _ = T.int (often p s m); unfold often; rw [if_neg (of_decide_eq_false hk), hc]; done)
theorem e_often (k : Nat) (p : List Int × List Int) (ok : Lok p) (s : List Int) (ls : Lt s) (m : Int) (h0 : 0 ≤ m) (h1 : m ≤ 1000000000000000000000000000000) (h : Hd) : cl (k + 7) "how_often_to" [las p, tI s, .int m] h = .ok (.int (often p s m)) h := by
  refine call_w lk_how_often_to pur_lIi rfl rfl (fun n => ?_) h
  exact (e_oftenW k p ok s ls.ln m h0 h1 (tI s) ⟨n, []⟩ (e_sureL (k + 1) s ls _)).imp (fun _ _ z => z.1) (fun _ _ z => z.1) (fun _ _ z => z) (fun _ _ z => z)
/-! where two part -/
theorem pur_ll {p q : List Int × List Int} : T.pures [las p, las q] = true := pur_2l
def most (p q : List Int × List Int) : Nat := max p.1.length q.1.length + p.2.length + q.2.length
theorem e_apart (k : Nat) (p q : List Int × List Int) (ok : Lok p) (ok2 : Lok q) (r : T) (hr : r.pure = true)
    (hd : (r = .non ∧ ∀ n, n < most p q → word p.1 p.2 n = word q.1 q.2 n) ∨ ∃ n : Nat, n < most p q ∧ r = .int (n + 1) ∧ word p.1 p.2 n ≠ word q.1 q.2 n ∧ ∀ j, j < n → word p.1 p.2 j = word q.1 q.2 j) (h : Hd) : cl (k + 7) "first_apart" [las p, las q] h = .ok r h := by
  have hl1 := ok.l1
  have hl2 := ok.l2
  have hl3 := ok2.l1
  have hl4 := ok2.l2
  refine call_w lk_first_apart pur_ll hr rfl (fun n => ?_) h
  dsimp only [d_first_apart, List.map_cons, List.map_nil, List.cons_append, List.nil_append, List.append_nil, Nat.reduceSub, Nat.sub_self, List.replicate]
  have hmax : ∀ h : Hd, op2 .max (.v (.int (p.1.length : Nat))) (.v (.int (q.1.length : Nat))) = some (.v (.int ((max p.1.length q.1.length : Nat) : Int))) := fun _ => by
    show some (VV.v (.int (if (q.1.length : Int) > p.1.length then (q.1.length : Int) else p.1.length))) = _
    congr 3
    split <;> omega
  obtain ⟨mm, em⟩ : ∃ mm : Int, mm = (max p.1.length q.1.length : Nat) := ⟨_, rfl⟩
  have hmax : op2 .max (.v (.int (p.1.length : Nat))) (.v (.int (q.1.length : Nat))) = some (.v (.int mm)) := by rw [em]; exact hmax ⟨0, []⟩
  have hmb : most p q ≤ 5000 := by unfold most; omega
  obtain ⟨n1, e1⟩ : ∃ n1 : Int, n1 = mm + (p.2.length : Nat) := ⟨_, rfl⟩
  obtain ⟨N, eN⟩ : ∃ N : Int, N = n1 + (q.2.length : Nat) := ⟨_, rfl⟩
  have hmost : N = (most p q : Nat) := by unfold most; omega
  have ha1 : ∀ h, opB .add h (.v (.int mm)) (.v (.int (p.2.length : Nat))) = some (.v (.int n1)) := fun h => by rw [e1]; rfl
  have ha2 : ∀ h, opB .add h (.v (.int n1)) (.v (.int (q.2.length : Nat))) = some (.v (.int N)) := fun h => by rw [eN]; rfl
  repeat' (first | ((with_reducible apply w_slot); rfl) | (with_reducible apply w_non) | (with_reducible apply w_bl) | (with_reducible apply w_int) | (with_reducible apply w_str) | (with_reducible apply w_tup) | (with_reducible apply w_lst) | (with_reducible apply w_nil) | (with_reducible apply w_cons) | (with_reducible apply w_star) | (with_reducible apply w_bin) | (with_reducible apply w_cmp) | (with_reducible apply w_chain) | (with_reducible apply w_isN) | (with_reducible apply w_notN) | (with_reducible apply w_andW) | (with_reducible apply w_orW) | (with_reducible apply w_not) | (with_reducible apply w_neg) | (with_reducible apply w_ite) | (with_reducible apply w_f1) | (with_reducible apply w_f2) | (with_reducible apply w_isi) | (with_reducible apply w_ix) | (with_reducible apply w_slAll) | (with_reducible apply w_slL) | (with_reducible apply w_slU) | (with_reducible apply w_slLU) | (with_reducible apply w_pop0) | (with_reducible apply w_meth1) | (with_reducible apply w_lcA) | (with_reducible apply w_lsR1) | (with_reducible apply w_lsR2) | (with_reducible apply w_lsZ) | (with_reducible apply w_srtSet) | (with_reducible apply i_seqW) | (with_reducible apply i_rng1W) | (with_reducible apply i_rng2W) | (with_reducible apply i_enumW) | (with_reducible apply i_zipW) | (with_reducible apply s_exprW) | (with_reducible apply s_retW) | (with_reducible apply s_retNW) | (with_reducible apply s_asgW) | (with_reducible apply s_asgT) | (with_reducible apply s_parW) | (with_reducible apply s_iteW) | (with_reducible apply ss_nilW) | (with_reducible apply ss_consW) | (with_reducible apply w_call) | (with_reducible apply WL.v) | (with_reducible apply WL.l) | (with_reducible refine w_glob gl_MOST_WIDE ?_) | ((with_reducible apply WE.cl); (exact e_sure k p ok _)) | ((with_reducible apply WE.cl); (exact e_sure k q ok2 _)) | ((with_reducible apply exW); (with_reducible first | exact hmax | exact ha1 _ | exact ha2 _)) | ((with_reducible apply exW); first | (with_reducible exact eq_i) | (with_reducible exact eq_I) | (with_reducible exact ne_I) | (with_reducible exact ne_i) | (with_reducible exact len_I) | (with_reducible exact sl_last) | (with_reducible exact sl_take (by omega)) | (with_reducible exact sl_drop (by omega)) | (with_reducible exact mod_I (by omega)) | (with_reducible exact div_I (by omega) (by omega)) | (with_reducible exact cat_I (by omega))) | ((with_reducible apply fewW); (focus ((show _ ≤ 16777216); simp; done))) | ((with_reducible apply exW2); rfl) | ((with_reducible apply exW); rfl) | (exfalso; revert hk; decide) | (exfalso; revert hk; simp; done) | intro hk)
  refine s_frW (I := fun v c ρ h' => v = .rng 1 (most p q) ∧ (∃ o, ρ = [some (las p), some (las q), some (.int N), o, some (las p), some (las q)]) ∧ ∀ j, j < c → word p.1 p.2 j = word q.1 q.2 j) (M := fun _ => most p q) ?_ ?_
  · show WE (evI (Pk _) _ _ _) _
    with_reducible apply i_rng2W
    repeat' (first | ((with_reducible apply w_slot); rfl) | (with_reducible apply w_non) | (with_reducible apply w_bl) | (with_reducible apply w_int) | (with_reducible apply w_str) | (with_reducible apply w_tup) | (with_reducible apply w_lst) | (with_reducible apply w_nil) | (with_reducible apply w_cons) | (with_reducible apply w_star) | (with_reducible apply w_bin) | (with_reducible apply w_cmp) | (with_reducible apply w_chain) | (with_reducible apply w_isN) | (with_reducible apply w_notN) | (with_reducible apply w_andW) | (with_reducible apply w_orW) | (with_reducible apply w_not) | (with_reducible apply w_neg) | (with_reducible apply w_ite) | (with_reducible apply w_f1) | (with_reducible apply w_f2) | (with_reducible apply w_isi) | (with_reducible apply w_ix) | (with_reducible apply w_slAll) | (with_reducible apply w_slL) | (with_reducible apply w_slU) | (with_reducible apply w_slLU) | (with_reducible apply w_pop0) | (with_reducible apply w_meth1) | (with_reducible apply w_lcA) | (with_reducible apply w_lsR1) | (with_reducible apply w_lsR2) | (with_reducible apply w_lsZ) | (with_reducible apply w_srtSet) | (with_reducible apply i_seqW) | (with_reducible apply i_rng1W) | (with_reducible apply i_rng2W) | (with_reducible apply i_enumW) | (with_reducible apply i_zipW) | (with_reducible apply s_exprW) | (with_reducible apply s_retW) | (with_reducible apply s_retNW) | (with_reducible apply s_asgW) | (with_reducible apply s_asgT) | (with_reducible apply s_parW) | (with_reducible apply s_iteW) | (with_reducible apply ss_nilW) | (with_reducible apply ss_consW) | (with_reducible apply w_call) | (with_reducible apply WL.v) | (with_reducible apply WL.l) | ((with_reducible apply exW); first | (with_reducible exact eq_i) | (with_reducible exact eq_I) | (with_reducible exact ne_I) | (with_reducible exact ne_i) | (with_reducible exact len_I) | (with_reducible exact sl_last) | (with_reducible exact sl_take (by omega)) | (with_reducible exact sl_drop (by omega)) | (with_reducible exact mod_I (by omega)) | (with_reducible exact div_I (by omega) (by omega)) | (with_reducible exact cat_I (by omega))) | ((with_reducible apply fewW); (focus ((show _ ≤ 16777216); simp; done))) | ((with_reducible apply exW2); rfl) | ((with_reducible apply exW); rfl) | (exfalso; revert hk; decide) | (exfalso; revert hk; simp; done) | intro hk)
    refine ⟨1, N + 1, rfl, rfl, ?_, ?_, ?_, ⟨_, rfl⟩, fun j hj => by omega⟩
    · unfold small62
      simp
      omega
    · show most p q < 100000
      omega
    · rw [show (N + 1 - 1).toNat = most p q by omega]
  · rintro v c ρ h' hc ⟨rfl, ⟨o, rfl⟩, hsame⟩
    have hc : c ≤ most p q := hc
    by_cases hlt : c < most p q
    · obtain ⟨x, hx⟩ : ∃ x : Int, x = 1 + (c : Nat) := ⟨_, rfl⟩
      refine .inr ⟨hlt, .int x, _, by show (some (if c < most p q then _ else _)) = _; rw [if_pos hlt, hx], rfl, ?_⟩
      have hxn : (x - 1).toNat = c := by omega
      have e1 : ∀ h, ∃ y, word p.1 p.2 c = some y ∧ cl (k + 5 + 1) "entry_at" [tI p.1, tI p.2, .int x] h = .ok (.int y) h := fun h => by
        obtain ⟨y, hy, e⟩ := e_entry (k + 5) p ok x (by omega) h
        exact ⟨y, by rw [← hxn]; exact hy, e⟩
      have e2 : ∀ h, ∃ y, word q.1 q.2 c = some y ∧ cl (k + 5 + 1) "entry_at" [tI q.1, tI q.2, .int x] h = .ok (.int y) h := fun h => by
        obtain ⟨y, hy, e⟩ := e_entry (k + 5) q ok2 x (by omega) h
        exact ⟨y, by rw [← hxn]; exact hy, e⟩
      obtain ⟨y, hy, ey⟩ := e1 h'
      obtain ⟨z, hz, ez⟩ := e2 h'
      repeat' (first | ((with_reducible apply w_slot); rfl) | (with_reducible apply w_non) | (with_reducible apply w_bl) | (with_reducible apply w_int) | (with_reducible apply w_str) | (with_reducible apply w_tup) | (with_reducible apply w_lst) | (with_reducible apply w_nil) | (with_reducible apply w_cons) | (with_reducible apply w_star) | (with_reducible apply w_bin) | (with_reducible apply w_cmp) | (with_reducible apply w_chain) | (with_reducible apply w_isN) | (with_reducible apply w_notN) | (with_reducible apply w_andW) | (with_reducible apply w_orW) | (with_reducible apply w_not) | (with_reducible apply w_neg) | (with_reducible apply w_ite) | (with_reducible apply w_f1) | (with_reducible apply w_f2) | (with_reducible apply w_isi) | (with_reducible apply w_ix) | (with_reducible apply w_slAll) | (with_reducible apply w_slL) | (with_reducible apply w_slU) | (with_reducible apply w_slLU) | (with_reducible apply w_pop0) | (with_reducible apply w_meth1) | (with_reducible apply w_lcA) | (with_reducible apply w_lsR1) | (with_reducible apply w_lsR2) | (with_reducible apply w_lsZ) | (with_reducible apply w_srtSet) | (with_reducible apply i_seqW) | (with_reducible apply i_rng1W) | (with_reducible apply i_rng2W) | (with_reducible apply i_enumW) | (with_reducible apply i_zipW) | (with_reducible apply s_exprW) | (with_reducible apply s_retW) | (with_reducible apply s_retNW) | (with_reducible apply s_asgW) | (with_reducible apply s_asgT) | (with_reducible apply s_parW) | (with_reducible apply s_iteW) | (with_reducible apply ss_nilW) | (with_reducible apply ss_consW) | (with_reducible apply w_call) | (with_reducible apply WL.v) | (with_reducible apply WL.l) | ((with_reducible apply WE.cl); (exact ey)) | ((with_reducible apply WE.cl); (exact ez)) | ((with_reducible apply exW); first | (with_reducible exact eq_i) | (with_reducible exact eq_I) | (with_reducible exact ne_I) | (with_reducible exact ne_i) | (with_reducible exact len_I) | (with_reducible exact sl_last) | (with_reducible exact sl_take (by omega)) | (with_reducible exact sl_drop (by omega)) | (with_reducible exact mod_I (by omega)) | (with_reducible exact div_I (by omega) (by omega)) | (with_reducible exact cat_I (by omega))) | ((with_reducible apply fewW); (focus ((show _ ≤ 16777216); simp; done))) | ((with_reducible apply exW2); rfl) | ((with_reducible apply exW); rfl) | (exfalso; revert hk; decide) | (exfalso; revert hk; simp; done) | intro hk)
      · have hne : y ≠ z := by
          have hk : (!decide (y = z)) = true := hk
          simpa using hk
        show T.int x = r
        rcases hd with ⟨_, hall⟩ | ⟨m, hm, hr, hd1, hd2⟩
        · have := hall c hlt
          rw [hy, hz] at this
          cases this
          exact absurd rfl hne
        · have : m = c := by
            rcases Nat.lt_trichotomy m c with h1 | h1 | h1
            · exact absurd (hsame m h1) hd1
            · exact h1
            · have := hd2 c h1
              rw [hy, hz] at this
              cases this
              exact absurd rfl hne
          rw [hr, hx, this, Int.add_comm] <;> rfl
      · have he : y = z := by
          have hk : (!decide (y = z)) = false := hk
          simpa using hk
        refine ⟨rfl, ⟨_, rfl⟩, fun j hj => ?_⟩
        by_cases h1 : j < c
        · exact hsame j h1
        · have : j = c := by omega
          rw [this, hy, hz, he]
    · refine .inl ⟨by show (some (if c < most p q then _ else _)) = _; rw [if_neg hlt], ?_⟩
      repeat' (first | ((with_reducible apply w_slot); rfl) | (with_reducible apply w_non) | (with_reducible apply w_bl) | (with_reducible apply w_int) | (with_reducible apply w_str) | (with_reducible apply w_tup) | (with_reducible apply w_lst) | (with_reducible apply w_nil) | (with_reducible apply w_cons) | (with_reducible apply w_star) | (with_reducible apply w_bin) | (with_reducible apply w_cmp) | (with_reducible apply w_chain) | (with_reducible apply w_isN) | (with_reducible apply w_notN) | (with_reducible apply w_andW) | (with_reducible apply w_orW) | (with_reducible apply w_not) | (with_reducible apply w_neg) | (with_reducible apply w_ite) | (with_reducible apply w_f1) | (with_reducible apply w_f2) | (with_reducible apply w_isi) | (with_reducible apply w_ix) | (with_reducible apply w_slAll) | (with_reducible apply w_slL) | (with_reducible apply w_slU) | (with_reducible apply w_slLU) | (with_reducible apply w_pop0) | (with_reducible apply w_meth1) | (with_reducible apply w_lcA) | (with_reducible apply w_lsR1) | (with_reducible apply w_lsR2) | (with_reducible apply w_lsZ) | (with_reducible apply w_srtSet) | (with_reducible apply i_seqW) | (with_reducible apply i_rng1W) | (with_reducible apply i_rng2W) | (with_reducible apply i_enumW) | (with_reducible apply i_zipW) | (with_reducible apply s_exprW) | (with_reducible apply s_retW) | (with_reducible apply s_retNW) | (with_reducible apply s_asgW) | (with_reducible apply s_asgT) | (with_reducible apply s_parW) | (with_reducible apply s_iteW) | (with_reducible apply ss_nilW) | (with_reducible apply ss_consW) | (with_reducible apply w_call) | (with_reducible apply WL.v) | (with_reducible apply WL.l) | ((with_reducible apply exW); first | (with_reducible exact eq_i) | (with_reducible exact eq_I) | (with_reducible exact ne_I) | (with_reducible exact ne_i) | (with_reducible exact len_I) | (with_reducible exact sl_last) | (with_reducible exact sl_take (by omega)) | (with_reducible exact sl_drop (by omega)) | (with_reducible exact mod_I (by omega)) | (with_reducible exact div_I (by omega) (by omega)) | (with_reducible exact cat_I (by omega))) | ((with_reducible apply fewW); (focus ((show _ ≤ 16777216); simp; done))) | ((with_reducible apply exW2); rfl) | ((with_reducible apply exW); rfl) | (exfalso; revert hk; decide) | (exfalso; revert hk; simp; done) | intro hk)
      have hce : c = most p q := by omega
      show T.non = r
      rcases hd with ⟨hr, _⟩ | ⟨m, hm, _, hd1, _⟩
      · rw [hr]
      · exact absurd (hsame m (by omega)) hd1
end K01
end

section
set_option Elab.async false
set_option linter.all false
set_option maxRecDepth 100000
set_option maxHeartbeats 1000000
namespace K01
open PySem Pv
/-- a def's run at once, the heap left -/
theorem call_h {k : Nat} {f : Str} {d : Df} {ts : List T} {v : T} (e : pd.DL.lookup f = some d) (hp : T.pures ts = false) (hl : ts.length = d.ps) (h : Hd)
    (q : WS (evSs ⟨callN pd.DL pd.glob 100000 k, pd.glob, 100000⟩ d.body (ts.map some ++ List.replicate (d.n - d.ps) none) h) ⟨fun _ h' => T.non = v ∧ h' = h, fun t h' => t = v ∧ h' = h, fun _ _ => False, fun _ _ => False⟩) : cl (k + 1) f ts h = .ok v h := by
  show callN pd.DL pd.glob 100000 (k + 1) f ts h = _
  rw [callN_at e hp]
  obtain ⟨x, h', e1, e2, e3⟩ := (run_w (P := ⟨callN pd.DL pd.glob 100000 k, pd.glob, 100000⟩) (d := d) (ts := ts) (h := h) (Q := fun t h' => t = v ∧ h' = h) hl q).get
  rw [e1, e2, e3]
end K01
end

section
set_option Elab.async false
set_option linter.all false
set_option maxRecDepth 100000
set_option maxHeartbeats 1000000
namespace K01
open PySem Pv
/-- the draws' box: three numbers, the third one small -/
def Box (i : Nat) (n : Nat) (h : Hd) : Prop := i < h.next ∧ ∃ x y z : Int, h.get i = some (.lst [.int x, .int y, .int z]) ∧ 0 ≤ z ∧ z ≤ n
theorem Box.mono {i n m : Nat} {h : Hd} (b : Box i n h) (l : n ≤ m) : Box i m h := by
  obtain ⟨h1, x, y, z, e, z0, z1⟩ := b
  exact ⟨h1, x, y, z, e, z0, by omega⟩
theorem Box.keep {i n : Nat} {h h' : Hd} (b : Box i n h) (l : h.next ≤ h'.next) (e : h'.get i = h.get i) : Box i n h' := by
  obtain ⟨h1, x, y, z, e0, z0, z1⟩ := b
  exact ⟨by omega, x, y, z, by rw [e, e0], z0, z1⟩
theorem Box.new {i n : Nat} {h : Hd} {o : Ob} (b : Box i n h) : Box i n (h.new o) := b.keep (Nat.le_succ _) (get_new_ne b.1)
theorem Box.put {i j n : Nat} {h : Hd} {o : Ob} (b : Box i n h) (e : j ≠ i) : Box i n (h.put j o) := b.keep (Nat.le_refl _) (get_put_ne e)
/-- an impure call, by its def's run -/
theorem call_wr {k : Nat} {f : Str} {d : Df} {ts : List T} {Q : T → Hd → Prop} {h : Hd} (e : pd.DL.lookup f = some d) (hp : T.pures ts = false) (hl : ts.length = d.ps)
    (q : WS (evSs ⟨callN pd.DL pd.glob 100000 k, pd.glob, 100000⟩ d.body (ts.map some ++ List.replicate (d.n - d.ps) none) h) ⟨fun _ h' => Q T.non h', Q, fun _ _ => False, fun _ _ => False⟩) : WE (cl (k + 1) f ts h) Q := by
  show WE (callN pd.DL pd.glob 100000 (k + 1) f ts h) Q
  rw [callN_at e hp]
  exact run_w hl q
theorem e_take (k : Nat) (i n : Nat) (b : Int) (hb : 0 < b) (hb2 : b < 1000000000) (hn : n < 1000000) (h : Hd) (bx : Box i n h) : WE (cl (k + 1) "_law_take" [.ref i, .int b] h) fun t h' => ∃ d, t = .int d ∧ 0 ≤ d ∧ d < b ∧ Box i (n + 1) h' ∧ Kp i h h' := by
  obtain ⟨hlt, x, y, z, hg, z0, z1⟩ := bx
  refine call_wr lk__law_take rfl rfl ?_
  dsimp only [d__law_take, List.map_cons, List.map_nil, List.cons_append, List.nil_append, List.append_nil, Nat.reduceSub, Nat.sub_self, List.replicate]
  have hx : opIx h (.v (.ref i)) (.v (.int 0)) = some (.v (.int x)) := ix_ref hg rfl
  have hz : opIx h (.v (.ref i)) (.v (.int 2)) = some (.v (.int z)) := ix_ref hg rfl
  repeat' (first | ((with_reducible apply w_slot); rfl) | (with_reducible apply w_non) | (with_reducible apply w_bl) | (with_reducible apply w_int) | (with_reducible apply w_str) | (with_reducible apply w_tup) | (with_reducible apply w_lst) | (with_reducible apply w_nil) | (with_reducible apply w_cons) | (with_reducible apply w_star) | (with_reducible apply w_bin) | (with_reducible apply w_cmp) | (with_reducible apply w_chain) | (with_reducible apply w_isN) | (with_reducible apply w_notN) | (with_reducible apply w_andW) | (with_reducible apply w_orW) | (with_reducible apply w_not) | (with_reducible apply w_neg) | (with_reducible apply w_ite) | (with_reducible apply w_f1) | (with_reducible apply w_f2) | (with_reducible apply w_isi) | (with_reducible apply w_ix) | (with_reducible apply w_slAll) | (with_reducible apply w_slL) | (with_reducible apply w_slU) | (with_reducible apply w_slLU) | (with_reducible apply w_pop0) | (with_reducible apply w_meth1) | (with_reducible apply w_lcA) | (with_reducible apply w_lsR1) | (with_reducible apply w_lsR2) | (with_reducible apply w_lsZ) | (with_reducible apply w_srtSet) | (with_reducible apply i_seqW) | (with_reducible apply i_rng1W) | (with_reducible apply i_rng2W) | (with_reducible apply i_enumW) | (with_reducible apply i_zipW) | (with_reducible apply s_exprW) | (with_reducible apply s_retW) | (with_reducible apply s_retNW) | (with_reducible apply s_asgW) | (with_reducible apply s_asgT) | (with_reducible apply s_parW) | (with_reducible apply s_iteW) | (with_reducible apply ss_nilW) | (with_reducible apply ss_consW) | (with_reducible apply w_call) | (with_reducible apply WL.v) | (with_reducible apply WL.l) | ((with_reducible apply exW); (with_reducible first | exact hx | exact hz)) | (with_reducible apply s_setixW) | ((with_reducible apply exW); first | (with_reducible exact eq_i) | (with_reducible exact eq_I) | (with_reducible exact ne_I) | (with_reducible exact ne_i) | (with_reducible exact len_I) | (with_reducible exact sl_last) | (with_reducible exact sl_take (by omega)) | (with_reducible exact sl_drop (by omega)) | (with_reducible exact mod_I (by omega)) | (with_reducible exact div_I (by omega) (by omega)) | (with_reducible exact cat_I (by omega))) | ((with_reducible apply fewW); (focus ((show _ ≤ 16777216); simp; done))) | ((with_reducible apply exW2); rfl) | ((with_reducible apply exW); rfl) | (exfalso; revert hk; decide) | (exfalso; revert hk; simp; done) | intro hk)
  · refine ⟨i, rfl, ?_⟩
    repeat' (first | ((with_reducible apply w_slot); rfl) | (with_reducible apply w_non) | (with_reducible apply w_bl) | (with_reducible apply w_int) | (with_reducible apply w_str) | (with_reducible apply w_tup) | (with_reducible apply w_lst) | (with_reducible apply w_nil) | (with_reducible apply w_cons) | (with_reducible apply w_star) | (with_reducible apply w_bin) | (with_reducible apply w_cmp) | (with_reducible apply w_chain) | (with_reducible apply w_isN) | (with_reducible apply w_notN) | (with_reducible apply w_andW) | (with_reducible apply w_orW) | (with_reducible apply w_not) | (with_reducible apply w_neg) | (with_reducible apply w_ite) | (with_reducible apply w_f1) | (with_reducible apply w_f2) | (with_reducible apply w_isi) | (with_reducible apply w_ix) | (with_reducible apply w_slAll) | (with_reducible apply w_slL) | (with_reducible apply w_slU) | (with_reducible apply w_slLU) | (with_reducible apply w_pop0) | (with_reducible apply w_meth1) | (with_reducible apply w_lcA) | (with_reducible apply w_lsR1) | (with_reducible apply w_lsR2) | (with_reducible apply w_lsZ) | (with_reducible apply w_srtSet) | (with_reducible apply i_seqW) | (with_reducible apply i_rng1W) | (with_reducible apply i_rng2W) | (with_reducible apply i_enumW) | (with_reducible apply i_zipW) | (with_reducible apply s_exprW) | (with_reducible apply s_retW) | (with_reducible apply s_retNW) | (with_reducible apply s_asgW) | (with_reducible apply s_asgT) | (with_reducible apply s_parW) | (with_reducible apply s_iteW) | (with_reducible apply ss_nilW) | (with_reducible apply ss_consW) | (with_reducible apply w_call) | (with_reducible apply WL.v) | (with_reducible apply WL.l) | ((with_reducible apply exW); first | (with_reducible exact eq_i) | (with_reducible exact eq_I) | (with_reducible exact ne_I) | (with_reducible exact ne_i) | (with_reducible exact len_I) | (with_reducible exact sl_last) | (with_reducible exact sl_take (by omega)) | (with_reducible exact sl_drop (by omega)) | (with_reducible exact mod_I (by omega)) | (with_reducible exact div_I (by omega) (by omega)) | (with_reducible exact cat_I (by omega))) | ((with_reducible apply fewW); (focus ((show _ ≤ 16777216); simp; done))) | ((with_reducible apply exW2); rfl) | ((with_reducible apply exW); rfl) | (exfalso; revert hk; decide) | (exfalso; revert hk; simp; done) | intro hk)
    refine ⟨_, _, 0, rfl, hg, rfl, ?_⟩
    repeat' (first | ((with_reducible apply w_slot); rfl) | (with_reducible apply w_non) | (with_reducible apply w_bl) | (with_reducible apply w_int) | (with_reducible apply w_str) | (with_reducible apply w_tup) | (with_reducible apply w_lst) | (with_reducible apply w_nil) | (with_reducible apply w_cons) | (with_reducible apply w_star) | (with_reducible apply w_bin) | (with_reducible apply w_cmp) | (with_reducible apply w_chain) | (with_reducible apply w_isN) | (with_reducible apply w_notN) | (with_reducible apply w_andW) | (with_reducible apply w_orW) | (with_reducible apply w_not) | (with_reducible apply w_neg) | (with_reducible apply w_ite) | (with_reducible apply w_f1) | (with_reducible apply w_f2) | (with_reducible apply w_isi) | (with_reducible apply w_ix) | (with_reducible apply w_slAll) | (with_reducible apply w_slL) | (with_reducible apply w_slU) | (with_reducible apply w_slLU) | (with_reducible apply w_pop0) | (with_reducible apply w_meth1) | (with_reducible apply w_lcA) | (with_reducible apply w_lsR1) | (with_reducible apply w_lsR2) | (with_reducible apply w_lsZ) | (with_reducible apply w_srtSet) | (with_reducible apply i_seqW) | (with_reducible apply i_rng1W) | (with_reducible apply i_rng2W) | (with_reducible apply i_enumW) | (with_reducible apply i_zipW) | (with_reducible apply s_exprW) | (with_reducible apply s_retW) | (with_reducible apply s_retNW) | (with_reducible apply s_asgW) | (with_reducible apply s_asgT) | (with_reducible apply s_parW) | (with_reducible apply s_iteW) | (with_reducible apply ss_nilW) | (with_reducible apply ss_consW) | (with_reducible apply w_call) | (with_reducible apply WL.v) | (with_reducible apply WL.l) | ((with_reducible apply exW); first | (with_reducible exact eq_i) | (with_reducible exact eq_I) | (with_reducible exact ne_I) | (with_reducible exact ne_i) | (with_reducible exact len_I) | (with_reducible exact sl_last) | (with_reducible exact sl_take (by omega)) | (with_reducible exact sl_drop (by omega)) | (with_reducible exact mod_I (by omega)) | (with_reducible exact div_I (by omega) (by omega)) | (with_reducible exact cat_I (by omega))) | ((with_reducible apply fewW); (focus ((show _ ≤ 16777216); simp; done))) | ((with_reducible apply exW2); rfl) | ((with_reducible apply exW); rfl) | (exfalso; revert hk; decide) | (exfalso; revert hk; simp; done) | intro hk)
    refine ⟨_, rfl, Int.emod_nonneg _ (by omega), Int.emod_lt_of_pos _ hb, ⟨hlt, x / b, y, z, get_put_same hg, z0, by omega⟩, Kp.put⟩
  · refine ⟨i, rfl, ?_⟩
    repeat' (first | ((with_reducible apply w_slot); rfl) | (with_reducible apply w_non) | (with_reducible apply w_bl) | (with_reducible apply w_int) | (with_reducible apply w_str) | (with_reducible apply w_tup) | (with_reducible apply w_lst) | (with_reducible apply w_nil) | (with_reducible apply w_cons) | (with_reducible apply w_star) | (with_reducible apply w_bin) | (with_reducible apply w_cmp) | (with_reducible apply w_chain) | (with_reducible apply w_isN) | (with_reducible apply w_notN) | (with_reducible apply w_andW) | (with_reducible apply w_orW) | (with_reducible apply w_not) | (with_reducible apply w_neg) | (with_reducible apply w_ite) | (with_reducible apply w_f1) | (with_reducible apply w_f2) | (with_reducible apply w_isi) | (with_reducible apply w_ix) | (with_reducible apply w_slAll) | (with_reducible apply w_slL) | (with_reducible apply w_slU) | (with_reducible apply w_slLU) | (with_reducible apply w_pop0) | (with_reducible apply w_meth1) | (with_reducible apply w_lcA) | (with_reducible apply w_lsR1) | (with_reducible apply w_lsR2) | (with_reducible apply w_lsZ) | (with_reducible apply w_srtSet) | (with_reducible apply i_seqW) | (with_reducible apply i_rng1W) | (with_reducible apply i_rng2W) | (with_reducible apply i_enumW) | (with_reducible apply i_zipW) | (with_reducible apply s_exprW) | (with_reducible apply s_retW) | (with_reducible apply s_retNW) | (with_reducible apply s_asgW) | (with_reducible apply s_asgT) | (with_reducible apply s_parW) | (with_reducible apply s_iteW) | (with_reducible apply ss_nilW) | (with_reducible apply ss_consW) | (with_reducible apply w_call) | (with_reducible apply WL.v) | (with_reducible apply WL.l) | ((with_reducible apply exW); first | (with_reducible exact eq_i) | (with_reducible exact eq_I) | (with_reducible exact ne_I) | (with_reducible exact ne_i) | (with_reducible exact len_I) | (with_reducible exact sl_last) | (with_reducible exact sl_take (by omega)) | (with_reducible exact sl_drop (by omega)) | (with_reducible exact mod_I (by omega)) | (with_reducible exact div_I (by omega) (by omega)) | (with_reducible exact cat_I (by omega))) | ((with_reducible apply fewW); (focus ((show _ ≤ 16777216); simp; done))) | ((with_reducible apply exW2); rfl) | ((with_reducible apply exW); rfl) | (exfalso; revert hk; decide) | (exfalso; revert hk; simp; done) | intro hk)
    refine ⟨_, _, 2, rfl, hg, rfl, ?_⟩
    have hg1 : (h.put i (.lst ([T.int x, .int y, .int z].set 2 (.int (z + 1))))).get i = some (.lst [.int x, .int y, .int (z + 1)]) := get_put_same hg
    have bx1 : Box i (n + 1) (h.put i (.lst ([T.int x, .int y, .int z].set 2 (.int (z + 1))))) := ⟨hlt, x, y, z + 1, hg1, by omega, by omega⟩
    have kp1 : Kp i h (h.put i (.lst ([T.int x, .int y, .int z].set 2 (.int (z + 1))))) := Kp.put
    show WS (evSs _ _ _ (h.put i (.lst ([T.int x, .int y, .int z].set 2 (.int (z + 1)))))) _
    revert hg1 bx1 kp1
    generalize h.put i (.lst ([T.int x, .int y, .int z].set 2 (.int (z + 1)))) = h1
    intro hg1 bx1 kp1
    have hy : opIx h1 (.v (.ref i)) (.v (.int 1)) = some (.v (.int y)) := ix_ref hg1 rfl
    have hz : opIx h1 (.v (.ref i)) (.v (.int 2)) = some (.v (.int (z + 1))) := ix_ref hg1 rfl
    repeat' (first | ((with_reducible apply w_slot); rfl) | (with_reducible apply w_non) | (with_reducible apply w_bl) | (with_reducible apply w_int) | (with_reducible apply w_str) | (with_reducible apply w_tup) | (with_reducible apply w_lst) | (with_reducible apply w_nil) | (with_reducible apply w_cons) | (with_reducible apply w_star) | (with_reducible apply w_bin) | (with_reducible apply w_cmp) | (with_reducible apply w_chain) | (with_reducible apply w_isN) | (with_reducible apply w_notN) | (with_reducible apply w_andW) | (with_reducible apply w_orW) | (with_reducible apply w_not) | (with_reducible apply w_neg) | (with_reducible apply w_ite) | (with_reducible apply w_f1) | (with_reducible apply w_f2) | (with_reducible apply w_isi) | (with_reducible apply w_ix) | (with_reducible apply w_slAll) | (with_reducible apply w_slL) | (with_reducible apply w_slU) | (with_reducible apply w_slLU) | (with_reducible apply w_pop0) | (with_reducible apply w_meth1) | (with_reducible apply w_lcA) | (with_reducible apply w_lsR1) | (with_reducible apply w_lsR2) | (with_reducible apply w_lsZ) | (with_reducible apply w_srtSet) | (with_reducible apply i_seqW) | (with_reducible apply i_rng1W) | (with_reducible apply i_rng2W) | (with_reducible apply i_enumW) | (with_reducible apply i_zipW) | (with_reducible apply s_exprW) | (with_reducible apply s_retW) | (with_reducible apply s_retNW) | (with_reducible apply s_asgW) | (with_reducible apply s_asgT) | (with_reducible apply s_parW) | (with_reducible apply s_iteW) | (with_reducible apply ss_nilW) | (with_reducible apply ss_consW) | (with_reducible apply w_call) | (with_reducible apply WL.v) | (with_reducible apply WL.l) | ((with_reducible apply exW); (with_reducible first | exact hy | exact hz)) | ((with_reducible apply exW); (with_reducible first | exact mul_I2 (by rfl) | exact mul_I (smallI_of (by omega) (by omega)))) | ((with_reducible apply exW); first | (with_reducible exact eq_i) | (with_reducible exact eq_I) | (with_reducible exact ne_I) | (with_reducible exact ne_i) | (with_reducible exact len_I) | (with_reducible exact sl_last) | (with_reducible exact sl_take (by omega)) | (with_reducible exact sl_drop (by omega)) | (with_reducible exact mod_I (by omega)) | (with_reducible exact div_I (by omega) (by omega)) | (with_reducible exact cat_I (by omega))) | ((with_reducible apply fewW); (focus ((show _ ≤ 16777216); simp; done))) | ((with_reducible apply exW2); rfl) | ((with_reducible apply exW); rfl) | (exfalso; revert hk; decide) | (exfalso; revert hk; simp; done) | intro hk)
    all_goals exact ⟨_, rfl, Int.emod_nonneg _ (by omega), Int.emod_lt_of_pos _ hb, bx1, kp1⟩
theorem Box.lt {i n : Nat} {h : Hd} (b : Box i n h) : i < h.next := b.1
/-- one of these -/
theorem e_of (k i n j : Nat) (ts : List T) (h : Hd) (hn : n < 900000) (bx : Box i n h) (hj : h.get j = some (.lst ts)) (hji : j ≠ i) (hlt : j < h.next) (hne : ts ≠ []) (hl : ts.length < 1000) : WE (cl (k + 2) "_law_of" [.ref i, .ref j] h) fun t h' => t ∈ ts ∧ Box i (n + 1) h' ∧ Kp i h h' := by
  refine call_wr lk__law_of rfl rfl ?_
  dsimp only [d__law_of, List.map_cons, List.map_nil, List.cons_append, List.nil_append, List.append_nil, Nat.reduceSub, Nat.sub_self, List.replicate]
  have hp : 0 < ts.length := List.length_pos_iff.mpr hne
  repeat' (first | ((with_reducible apply w_slot); rfl) | (with_reducible apply w_non) | (with_reducible apply w_bl) | (with_reducible apply w_int) | (with_reducible apply w_str) | (with_reducible apply w_tup) | (with_reducible apply w_lst) | (with_reducible apply w_nil) | (with_reducible apply w_cons) | (with_reducible apply w_star) | (with_reducible apply w_bin) | (with_reducible apply w_cmp) | (with_reducible apply w_chain) | (with_reducible apply w_isN) | (with_reducible apply w_notN) | (with_reducible apply w_andW) | (with_reducible apply w_orW) | (with_reducible apply w_not) | (with_reducible apply w_neg) | (with_reducible apply w_ite) | (with_reducible apply w_f1) | (with_reducible apply w_f2) | (with_reducible apply w_isi) | (with_reducible apply w_ix) | (with_reducible apply w_slAll) | (with_reducible apply w_slL) | (with_reducible apply w_slU) | (with_reducible apply w_slLU) | (with_reducible apply w_pop0) | (with_reducible apply w_meth1) | (with_reducible apply w_lcA) | (with_reducible apply w_lsR1) | (with_reducible apply w_lsR2) | (with_reducible apply w_lsZ) | (with_reducible apply w_srtSet) | (with_reducible apply i_seqW) | (with_reducible apply i_rng1W) | (with_reducible apply i_rng2W) | (with_reducible apply i_enumW) | (with_reducible apply i_zipW) | (with_reducible apply s_exprW) | (with_reducible apply s_retW) | (with_reducible apply s_retNW) | (with_reducible apply s_asgW) | (with_reducible apply s_asgT) | (with_reducible apply s_parW) | (with_reducible apply s_iteW) | (with_reducible apply ss_nilW) | (with_reducible apply ss_consW) | (with_reducible apply w_call) | (with_reducible apply WL.v) | (with_reducible apply WL.l) | ((with_reducible apply exW); (with_reducible exact len_ref hj)) | ((with_reducible apply exW); first | (with_reducible exact eq_i) | (with_reducible exact eq_I) | (with_reducible exact ne_I) | (with_reducible exact ne_i) | (with_reducible exact len_I) | (with_reducible exact sl_last) | (with_reducible exact sl_take (by omega)) | (with_reducible exact sl_drop (by omega)) | (with_reducible exact mod_I (by omega)) | (with_reducible exact div_I (by omega) (by omega)) | (with_reducible exact cat_I (by omega))) | ((with_reducible apply fewW); (focus ((show _ ≤ 16777216); simp; done))) | ((with_reducible apply exW2); rfl) | ((with_reducible apply exW); rfl) | (exfalso; revert hk; decide) | (exfalso; revert hk; simp; done) | intro hk)
  refine WE.imp (e_take k i n _ (by omega) (by omega) (by omega) h bx) ?_
  rintro _ h1 ⟨d, rfl, d0, d1, bx1, kp1⟩
  have hj1 : h1.get j = some (.lst ts) := by rw [kp1.2 j hlt hji, hj]
  have hd : ts[d.toNat]? = some (ts[d.toNat]'(by omega)) := List.getElem?_eq_getElem (by omega)
  refine exW (ix_ref hj1 (by rw [atI_nat _ _ d0]; exact hd)) ?_
  exact ⟨List.getElem_mem _, bx1, kp1⟩
end K01
end

section
set_option Elab.async false
set_option linter.all false
set_option maxRecDepth 100000
set_option maxHeartbeats 1000000
namespace K01
open PySem Pv
/-- a call of trees without objects that makes one list -/
theorem call_l {k : Nat} {f : Str} {d : Df} {ts us : List T} (e : pd.DL.lookup f = some d) (hp : T.pures ts = true) (hl : ts.length = d.ps) (h : Hd)
    (q : WS (evSs ⟨callN pd.DL pd.glob 100000 k, pd.glob, 100000⟩ d.body (ts.map some ++ List.replicate (d.n - d.ps) none) ⟨h.next, []⟩) ⟨fun _ _ => False, fun t h' => t = .ref h.next ∧ h' = ⟨h.next + 1, [(h.next, .lst us)]⟩, fun _ _ => False, fun _ _ => False⟩) : cl (k + 1) f ts h = .ok (.ref h.next) (h.new (.lst us)) := by
  show (match pd.DL.lookup f with | some d => if T.pures ts then after h (runDf ⟨callN pd.DL pd.glob 100000 k, pd.glob, 100000⟩ d ts ⟨h.next, []⟩) else runDf ⟨callN pd.DL pd.glob 100000 k, pd.glob, 100000⟩ d ts h | none => .fail) = _
  rw [e]
  simp only [hp, if_true]
  obtain ⟨x, h', e1, e2, e3⟩ := (run_w (P := ⟨callN pd.DL pd.glob 100000 k, pd.glob, 100000⟩) (d := d) (ts := ts) (h := ⟨h.next, []⟩) (Q := fun t h' => t = .ref h.next ∧ h' = ⟨h.next + 1, [(h.next, .lst us)]⟩) hl (q.imp (fun _ _ z => z.elim) (fun _ _ z => z) (fun _ _ z => z) (fun _ _ z => z))).get
  rw [e1, e2, e3]
  rfl
theorem sm01 (p : Prop) [Decidable p] : smallI (if p then 1 else 0) = true := by split <;> rfl
theorem ss_consR {P : Prg} {ρ : En} {h : Hd} {s : S} {ss : Ss} {D : Ws} (q : WS (evSs P (.cons s ss) ρ h) D) : WS (evS P s ρ h) { D with N := fun ρ h => WS (evSs P ss ρ h) D } := by
  have q : WS (match evS P s ρ h with | .nx ρ h => evSs P ss ρ h | r => r) D := q
  revert q
  cases evS P s ρ h <;> exact fun q => q
theorem e_cells (k : Nat) (ns : List Int) (hl : ns.length ≤ 63) (h : Hd) : ∃ c, cl (k + 1) "_law_cells" [.fl (ti ns), .int 1] h = .ok (.ref h.next) (h.new (.lst [.int c])) := by
  have hp : T.pures [.fl (ti ns), .int 1] = true := by show (T.pures (ti ns) && true) = true; rw [pures_ti]; rfl
  -- the number that comes, by a run
  have key : WE (runDf ⟨callN pd.DL pd.glob 100000 k, pd.glob, 100000⟩ d__law_cells [.fl (ti ns), .int 1] ⟨h.next, []⟩) fun t h' => ∃ c, t = .ref h.next ∧ h' = ⟨h.next + 1, [(h.next, .lst [.int c])]⟩ := by
    refine run_w rfl ?_
    dsimp only [d__law_cells, List.map_cons, List.map_nil, List.cons_append, List.nil_append, List.append_nil, Nat.reduceSub, Nat.sub_self, List.replicate]
    have hs1 : ∀ h, opSl h (.v (.fl (ti ns))) none (some 1) = some (.l (ti (ns.take 1))) := fun h => by
      show some (VV.l (cut (ti ns) none (some 1))) = _
      rw [cut_take _ _ (by omega), ti_take] <;> rfl
    have hs2 : ∀ h, opSl h (.v (.fl (ti ns))) (some 1) (some 63) = some (.l (ti ((ns.take 63).drop 1))) := fun h => by
      show some (VV.l (cut (ti ns) (some 1) (some 63))) = _
      rw [cut_both _ _ _ (by omega) (by omega), ti_take, ti_drop] <;> rfl
    have rest : ∀ c : Int, WS (evSs ⟨callN pd.DL pd.glob 100000 k, pd.glob, 100000⟩ (match d__law_cells.body with | .cons _ b => b | b => b) [some (.fl (ti ns)), some (.int 1), some (.ref h.next), none, none, none] ⟨h.next + 1, [(h.next, .lst [.int c])]⟩) ⟨fun _ h' => ∃ c, T.non = .ref h.next ∧ h' = ⟨h.next + 1, [(h.next, .lst [.int c])]⟩, fun t h' => ∃ c, t = .ref h.next ∧ h' = ⟨h.next + 1, [(h.next, .lst [.int c])]⟩, fun _ _ => False, fun _ _ => False⟩ := fun c => by
      dsimp only [d__law_cells, List.map_cons, List.map_nil, List.cons_append, List.nil_append, List.append_nil, Nat.reduceSub, Nat.sub_self, List.replicate]
      repeat' (first | ((with_reducible apply w_slot); rfl) | (with_reducible apply w_non) | (with_reducible apply w_bl) | (with_reducible apply w_int) | (with_reducible apply w_str) | (with_reducible apply w_tup) | (with_reducible apply w_lst) | (with_reducible apply w_nil) | (with_reducible apply w_cons) | (with_reducible apply w_star) | (with_reducible apply w_bin) | (with_reducible apply w_cmp) | (with_reducible apply w_chain) | (with_reducible apply w_isN) | (with_reducible apply w_notN) | (with_reducible apply w_andW) | (with_reducible apply w_orW) | (with_reducible apply w_not) | (with_reducible apply w_neg) | (with_reducible apply w_ite) | (with_reducible apply w_f1) | (with_reducible apply w_f2) | (with_reducible apply w_isi) | (with_reducible apply w_ix) | (with_reducible apply w_slAll) | (with_reducible apply w_slL) | (with_reducible apply w_slU) | (with_reducible apply w_slLU) | (with_reducible apply w_pop0) | (with_reducible apply w_meth1) | (with_reducible apply w_lcA) | (with_reducible apply w_lsR1) | (with_reducible apply w_lsR2) | (with_reducible apply w_lsZ) | (with_reducible apply w_srtSet) | (with_reducible apply i_seqW) | (with_reducible apply i_rng1W) | (with_reducible apply i_rng2W) | (with_reducible apply i_enumW) | (with_reducible apply i_zipW) | (with_reducible apply s_exprW) | (with_reducible apply s_retW) | (with_reducible apply s_retNW) | (with_reducible apply s_asgW) | (with_reducible apply s_asgT) | (with_reducible apply s_parW) | (with_reducible apply s_iteW) | (with_reducible apply ss_nilW) | (with_reducible apply ss_consW) | (with_reducible apply w_call) | (with_reducible apply WL.v) | (with_reducible apply WL.l) | ((with_reducible apply exW); first | (with_reducible exact eq_i) | (with_reducible exact eq_I) | (with_reducible exact ne_I) | (with_reducible exact ne_i) | (with_reducible exact len_I) | (with_reducible exact sl_last) | (with_reducible exact sl_take (by omega)) | (with_reducible exact sl_drop (by omega)) | (with_reducible exact mod_I (by omega)) | (with_reducible exact div_I (by omega) (by omega)) | (with_reducible exact cat_I (by omega))) | ((with_reducible apply fewW); (focus ((show _ ≤ 16777216); simp; done))) | ((with_reducible apply exW2); rfl) | ((with_reducible apply exW); rfl) | (exfalso; revert hk; decide) | (exfalso; revert hk; simp; done) | intro hk)
      refine s_frW (I := fun v j ρ h' => v = .enum (.tl (ti ((ns.take 63).drop 1))) ∧ (∃ o p q, ρ = [some (.fl (ti ns)), some (.int 1), some (.ref h.next), o, p, q]) ∧ ∃ c : Int, h' = ⟨h.next + 1, [(h.next, .lst [.int c])]⟩) (M := fun _ => ((ns.take 63).drop 1).length) ?_ ?_
      · repeat' (first | ((with_reducible apply w_slot); rfl) | (with_reducible apply w_non) | (with_reducible apply w_bl) | (with_reducible apply w_int) | (with_reducible apply w_str) | (with_reducible apply w_tup) | (with_reducible apply w_lst) | (with_reducible apply w_nil) | (with_reducible apply w_cons) | (with_reducible apply w_star) | (with_reducible apply w_bin) | (with_reducible apply w_cmp) | (with_reducible apply w_chain) | (with_reducible apply w_isN) | (with_reducible apply w_notN) | (with_reducible apply w_andW) | (with_reducible apply w_orW) | (with_reducible apply w_not) | (with_reducible apply w_neg) | (with_reducible apply w_ite) | (with_reducible apply w_f1) | (with_reducible apply w_f2) | (with_reducible apply w_isi) | (with_reducible apply w_ix) | (with_reducible apply w_slAll) | (with_reducible apply w_slL) | (with_reducible apply w_slU) | (with_reducible apply w_slLU) | (with_reducible apply w_pop0) | (with_reducible apply w_meth1) | (with_reducible apply w_lcA) | (with_reducible apply w_lsR1) | (with_reducible apply w_lsR2) | (with_reducible apply w_lsZ) | (with_reducible apply w_srtSet) | (with_reducible apply i_seqW) | (with_reducible apply i_rng1W) | (with_reducible apply i_rng2W) | (with_reducible apply i_enumW) | (with_reducible apply i_zipW) | (with_reducible apply s_exprW) | (with_reducible apply s_retW) | (with_reducible apply s_retNW) | (with_reducible apply s_asgW) | (with_reducible apply s_asgT) | (with_reducible apply s_parW) | (with_reducible apply s_iteW) | (with_reducible apply ss_nilW) | (with_reducible apply ss_consW) | (with_reducible apply w_call) | (with_reducible apply WL.v) | (with_reducible apply WL.l) | ((with_reducible apply exW); (with_reducible exact hs2 _)) | ((with_reducible apply exW); first | (with_reducible exact eq_i) | (with_reducible exact eq_I) | (with_reducible exact ne_I) | (with_reducible exact ne_i) | (with_reducible exact len_I) | (with_reducible exact sl_last) | (with_reducible exact sl_take (by omega)) | (with_reducible exact sl_drop (by omega)) | (with_reducible exact mod_I (by omega)) | (with_reducible exact div_I (by omega) (by omega)) | (with_reducible exact cat_I (by omega))) | ((with_reducible apply fewW); (focus ((show _ ≤ 16777216); simp; done))) | ((with_reducible apply exW2); rfl) | ((with_reducible apply exW); rfl) | (exfalso; revert hk; decide) | (exfalso; revert hk; simp; done) | intro hk)
        refine ⟨rfl, ?_, rfl, ⟨_, _, _, rfl⟩, c, rfl⟩
        show ((ns.take 63).drop 1).length < 100000
        rw [List.length_drop, List.length_take]
        omega
      · rintro v j ρ h' hj ⟨rfl, ⟨o, p, q, rfl⟩, c, rfl⟩
        have hlen : ((ns.take 63).drop 1).length ≤ 62 := by rw [List.length_drop, List.length_take]; omega
        have hat : (ItV.enum (.tl (ti ((ns.take 63).drop 1)))).at ⟨h.next + 1, [(h.next, .lst [.int c])]⟩ j = some (((ns.take 63).drop 1)[j]?.map fun x => T.tup [.int j, .int x]) := by
          show some ((ti ((ns.take 63).drop 1))[j]?.map fun t => T.tup [.int j, t]) = _
          rw [ti_get]
          cases ((ns.take 63).drop 1)[j]? <;> rfl
        have hj : j ≤ ((ns.take 63).drop 1).length := hj
        rw [hat]
        by_cases hlt : j < ((ns.take 63).drop 1).length
        · refine .inr ⟨hlt, _, _, by rw [List.getElem?_eq_getElem hlt]; rfl, rfl, ?_⟩
          have hg : (⟨h.next + 1, [(h.next, .lst [.int c])]⟩ : Hd).get h.next = some (.lst [.int c]) := by
            show (if h.next = h.next then _ else _) = _
            rw [if_pos rfl]
          have hx : opIx (⟨h.next + 1, [(h.next, .lst [.int c])]⟩ : Hd) (.v (.ref h.next)) (.v (.int ((j : Int) % 1))) = some (.v (.int c)) := ix_ref hg (by rw [Int.emod_one]; rfl)
          repeat' (first | ((with_reducible apply w_slot); rfl) | (with_reducible apply w_non) | (with_reducible apply w_bl) | (with_reducible apply w_int) | (with_reducible apply w_str) | (with_reducible apply w_tup) | (with_reducible apply w_lst) | (with_reducible apply w_nil) | (with_reducible apply w_cons) | (with_reducible apply w_star) | (with_reducible apply w_bin) | (with_reducible apply w_cmp) | (with_reducible apply w_chain) | (with_reducible apply w_isN) | (with_reducible apply w_notN) | (with_reducible apply w_andW) | (with_reducible apply w_orW) | (with_reducible apply w_not) | (with_reducible apply w_neg) | (with_reducible apply w_ite) | (with_reducible apply w_f1) | (with_reducible apply w_f2) | (with_reducible apply w_isi) | (with_reducible apply w_ix) | (with_reducible apply w_slAll) | (with_reducible apply w_slL) | (with_reducible apply w_slU) | (with_reducible apply w_slLU) | (with_reducible apply w_pop0) | (with_reducible apply w_meth1) | (with_reducible apply w_lcA) | (with_reducible apply w_lsR1) | (with_reducible apply w_lsR2) | (with_reducible apply w_lsZ) | (with_reducible apply w_srtSet) | (with_reducible apply i_seqW) | (with_reducible apply i_rng1W) | (with_reducible apply i_rng2W) | (with_reducible apply i_enumW) | (with_reducible apply i_zipW) | (with_reducible apply s_exprW) | (with_reducible apply s_retW) | (with_reducible apply s_retNW) | (with_reducible apply s_asgW) | (with_reducible apply s_asgT) | (with_reducible apply s_parW) | (with_reducible apply s_iteW) | (with_reducible apply ss_nilW) | (with_reducible apply ss_consW) | (with_reducible apply w_call) | (with_reducible apply WL.v) | (with_reducible apply WL.l) | (with_reducible apply s_setixW) | ((with_reducible apply exW); (with_reducible first | exact hx | exact mul_I (smallI_of (by omega) (by omega)))) | ((with_reducible apply exW); first | (with_reducible exact eq_i) | (with_reducible exact eq_I) | (with_reducible exact ne_I) | (with_reducible exact ne_i) | (with_reducible exact len_I) | (with_reducible exact sl_last) | (with_reducible exact sl_take (by omega)) | (with_reducible exact sl_drop (by omega)) | (with_reducible exact mod_I (by omega)) | (with_reducible exact div_I (by omega) (by omega)) | (with_reducible exact cat_I (by omega))) | ((with_reducible apply fewW); (focus ((show _ ≤ 16777216); simp; done))) | ((with_reducible apply exW2); rfl) | ((with_reducible apply exW); rfl) | (exfalso; revert hk; decide) | (exfalso; revert hk; simp; done) | intro hk)
          refine ⟨_, rfl, ?_⟩
          repeat' (first | ((with_reducible apply w_slot); rfl) | (with_reducible apply w_non) | (with_reducible apply w_bl) | (with_reducible apply w_int) | (with_reducible apply w_str) | (with_reducible apply w_tup) | (with_reducible apply w_lst) | (with_reducible apply w_nil) | (with_reducible apply w_cons) | (with_reducible apply w_star) | (with_reducible apply w_bin) | (with_reducible apply w_cmp) | (with_reducible apply w_chain) | (with_reducible apply w_isN) | (with_reducible apply w_notN) | (with_reducible apply w_andW) | (with_reducible apply w_orW) | (with_reducible apply w_not) | (with_reducible apply w_neg) | (with_reducible apply w_ite) | (with_reducible apply w_f1) | (with_reducible apply w_f2) | (with_reducible apply w_isi) | (with_reducible apply w_ix) | (with_reducible apply w_slAll) | (with_reducible apply w_slL) | (with_reducible apply w_slU) | (with_reducible apply w_slLU) | (with_reducible apply w_pop0) | (with_reducible apply w_meth1) | (with_reducible apply w_lcA) | (with_reducible apply w_lsR1) | (with_reducible apply w_lsR2) | (with_reducible apply w_lsZ) | (with_reducible apply w_srtSet) | (with_reducible apply i_seqW) | (with_reducible apply i_rng1W) | (with_reducible apply i_rng2W) | (with_reducible apply i_enumW) | (with_reducible apply i_zipW) | (with_reducible apply s_exprW) | (with_reducible apply s_retW) | (with_reducible apply s_retNW) | (with_reducible apply s_asgW) | (with_reducible apply s_asgT) | (with_reducible apply s_parW) | (with_reducible apply s_iteW) | (with_reducible apply ss_nilW) | (with_reducible apply ss_consW) | (with_reducible apply w_call) | (with_reducible apply WL.v) | (with_reducible apply WL.l) | ((with_reducible apply exW); first | (with_reducible exact eq_i) | (with_reducible exact eq_I) | (with_reducible exact ne_I) | (with_reducible exact ne_i) | (with_reducible exact len_I) | (with_reducible exact sl_last) | (with_reducible exact sl_take (by omega)) | (with_reducible exact sl_drop (by omega)) | (with_reducible exact mod_I (by omega)) | (with_reducible exact div_I (by omega) (by omega)) | (with_reducible exact cat_I (by omega))) | ((with_reducible apply fewW); (focus ((show _ ≤ 16777216); simp; done))) | ((with_reducible apply exW2); rfl) | ((with_reducible apply exW); rfl) | (exfalso; revert hk; decide) | (exfalso; revert hk; simp; done) | intro hk)
          refine ⟨_, _, 0, rfl, hg, by rw [Int.emod_one]; rfl, ?_⟩
          repeat' (first | ((with_reducible apply w_slot); rfl) | (with_reducible apply w_non) | (with_reducible apply w_bl) | (with_reducible apply w_int) | (with_reducible apply w_str) | (with_reducible apply w_tup) | (with_reducible apply w_lst) | (with_reducible apply w_nil) | (with_reducible apply w_cons) | (with_reducible apply w_star) | (with_reducible apply w_bin) | (with_reducible apply w_cmp) | (with_reducible apply w_chain) | (with_reducible apply w_isN) | (with_reducible apply w_notN) | (with_reducible apply w_andW) | (with_reducible apply w_orW) | (with_reducible apply w_not) | (with_reducible apply w_neg) | (with_reducible apply w_ite) | (with_reducible apply w_f1) | (with_reducible apply w_f2) | (with_reducible apply w_isi) | (with_reducible apply w_ix) | (with_reducible apply w_slAll) | (with_reducible apply w_slL) | (with_reducible apply w_slU) | (with_reducible apply w_slLU) | (with_reducible apply w_pop0) | (with_reducible apply w_meth1) | (with_reducible apply w_lcA) | (with_reducible apply w_lsR1) | (with_reducible apply w_lsR2) | (with_reducible apply w_lsZ) | (with_reducible apply w_srtSet) | (with_reducible apply i_seqW) | (with_reducible apply i_rng1W) | (with_reducible apply i_rng2W) | (with_reducible apply i_enumW) | (with_reducible apply i_zipW) | (with_reducible apply s_exprW) | (with_reducible apply s_retW) | (with_reducible apply s_retNW) | (with_reducible apply s_asgW) | (with_reducible apply s_asgT) | (with_reducible apply s_parW) | (with_reducible apply s_iteW) | (with_reducible apply ss_nilW) | (with_reducible apply ss_consW) | (with_reducible apply w_call) | (with_reducible apply WL.v) | (with_reducible apply WL.l) | ((with_reducible apply exW); first | (with_reducible exact eq_i) | (with_reducible exact eq_I) | (with_reducible exact ne_I) | (with_reducible exact ne_i) | (with_reducible exact len_I) | (with_reducible exact sl_last) | (with_reducible exact sl_take (by omega)) | (with_reducible exact sl_drop (by omega)) | (with_reducible exact mod_I (by omega)) | (with_reducible exact div_I (by omega) (by omega)) | (with_reducible exact cat_I (by omega))) | ((with_reducible apply fewW); (focus ((show _ ≤ 16777216); simp; done))) | ((with_reducible apply exW2); rfl) | ((with_reducible apply exW); rfl) | (exfalso; revert hk; decide) | (exfalso; revert hk; simp; done) | intro hk)
          refine ⟨rfl, ⟨_, _, _, rfl⟩, c + ((ns.take 63).drop 1)[j] * ((j : Int) + 2), ?_⟩
          show (⟨h.next + 1, (if h.next = h.next then _ else _)⟩ : Hd) = _
          rw [if_pos rfl] <;> rfl
        · refine .inl ⟨by rw [List.getElem?_eq_none (by omega)]; rfl, ?_⟩
          repeat' (first | ((with_reducible apply w_slot); rfl) | (with_reducible apply w_non) | (with_reducible apply w_bl) | (with_reducible apply w_int) | (with_reducible apply w_str) | (with_reducible apply w_tup) | (with_reducible apply w_lst) | (with_reducible apply w_nil) | (with_reducible apply w_cons) | (with_reducible apply w_star) | (with_reducible apply w_bin) | (with_reducible apply w_cmp) | (with_reducible apply w_chain) | (with_reducible apply w_isN) | (with_reducible apply w_notN) | (with_reducible apply w_andW) | (with_reducible apply w_orW) | (with_reducible apply w_not) | (with_reducible apply w_neg) | (with_reducible apply w_ite) | (with_reducible apply w_f1) | (with_reducible apply w_f2) | (with_reducible apply w_isi) | (with_reducible apply w_ix) | (with_reducible apply w_slAll) | (with_reducible apply w_slL) | (with_reducible apply w_slU) | (with_reducible apply w_slLU) | (with_reducible apply w_pop0) | (with_reducible apply w_meth1) | (with_reducible apply w_lcA) | (with_reducible apply w_lsR1) | (with_reducible apply w_lsR2) | (with_reducible apply w_lsZ) | (with_reducible apply w_srtSet) | (with_reducible apply i_seqW) | (with_reducible apply i_rng1W) | (with_reducible apply i_rng2W) | (with_reducible apply i_enumW) | (with_reducible apply i_zipW) | (with_reducible apply s_exprW) | (with_reducible apply s_retW) | (with_reducible apply s_retNW) | (with_reducible apply s_asgW) | (with_reducible apply s_asgT) | (with_reducible apply s_parW) | (with_reducible apply s_iteW) | (with_reducible apply ss_nilW) | (with_reducible apply ss_consW) | (with_reducible apply w_call) | (with_reducible apply WL.v) | (with_reducible apply WL.l) | ((with_reducible apply exW); first | (with_reducible exact eq_i) | (with_reducible exact eq_I) | (with_reducible exact ne_I) | (with_reducible exact ne_i) | (with_reducible exact len_I) | (with_reducible exact sl_last) | (with_reducible exact sl_take (by omega)) | (with_reducible exact sl_drop (by omega)) | (with_reducible exact mod_I (by omega)) | (with_reducible exact div_I (by omega) (by omega)) | (with_reducible exact cat_I (by omega))) | ((with_reducible apply fewW); (focus ((show _ ≤ 16777216); simp; done))) | ((with_reducible apply exW2); rfl) | ((with_reducible apply exW); rfl) | (exfalso; revert hk; decide) | (exfalso; revert hk; simp; done) | intro hk)
          exact ⟨c, rfl, rfl⟩
    repeat' (first | ((with_reducible apply w_slot); rfl) | (with_reducible apply w_non) | (with_reducible apply w_bl) | (with_reducible apply w_int) | (with_reducible apply w_str) | (with_reducible apply w_tup) | (with_reducible apply w_lst) | (with_reducible apply w_nil) | (with_reducible apply w_cons) | (with_reducible apply w_star) | (with_reducible apply w_bin) | (with_reducible apply w_cmp) | (with_reducible apply w_chain) | (with_reducible apply w_isN) | (with_reducible apply w_notN) | (with_reducible apply w_andW) | (with_reducible apply w_orW) | (with_reducible apply w_not) | (with_reducible apply w_neg) | (with_reducible apply w_ite) | (with_reducible apply w_f1) | (with_reducible apply w_f2) | (with_reducible apply w_isi) | (with_reducible apply w_ix) | (with_reducible apply w_slAll) | (with_reducible apply w_slL) | (with_reducible apply w_slU) | (with_reducible apply w_slLU) | (with_reducible apply w_pop0) | (with_reducible apply w_meth1) | (with_reducible apply w_lcA) | (with_reducible apply w_lsR1) | (with_reducible apply w_lsR2) | (with_reducible apply w_lsZ) | (with_reducible apply w_srtSet) | (with_reducible apply i_seqW) | (with_reducible apply i_rng1W) | (with_reducible apply i_rng2W) | (with_reducible apply i_enumW) | (with_reducible apply i_zipW) | (with_reducible apply s_exprW) | (with_reducible apply s_retW) | (with_reducible apply s_retNW) | (with_reducible apply s_asgW) | (with_reducible apply s_asgT) | (with_reducible apply s_parW) | (with_reducible apply s_iteW) | (with_reducible apply ss_nilW) | (with_reducible apply ss_consW) | (with_reducible apply w_call) | (with_reducible apply WL.v) | (with_reducible apply WL.l) | ((with_reducible apply exW); (with_reducible exact hs1 _)) | ((with_reducible apply exW); first | (with_reducible exact eq_i) | (with_reducible exact eq_I) | (with_reducible exact ne_I) | (with_reducible exact ne_i) | (with_reducible exact len_I) | (with_reducible exact sl_last) | (with_reducible exact sl_take (by omega)) | (with_reducible exact sl_drop (by omega)) | (with_reducible exact mod_I (by omega)) | (with_reducible exact div_I (by omega) (by omega)) | (with_reducible exact cat_I (by omega))) | ((with_reducible apply fewW); (focus ((show _ ≤ 16777216); simp; done))) | ((with_reducible apply exW2); rfl) | ((with_reducible apply exW); rfl) | (exfalso; revert hk; decide) | (exfalso; revert hk; simp; done) | intro hk)
    · cases ns with
      | nil => cases hk
      | cons x ns => exact ss_consR (rest x)
    · cases ns with
      | nil => exact ss_consR (rest 0)
      | cons x ns => cases hk
  obtain ⟨x, h', e1, c, e2, e3⟩ := key.get
  refine ⟨c, ?_⟩
  show (match pd.DL.lookup ("_law_cells" : Str) with | some d => if T.pures [.fl (ti ns), .int 1] then after h (runDf ⟨callN pd.DL pd.glob 100000 k, pd.glob, 100000⟩ d [.fl (ti ns), .int 1] ⟨h.next, []⟩) else runDf ⟨callN pd.DL pd.glob 100000 k, pd.glob, 100000⟩ d [.fl (ti ns), .int 1] h | none => .fail) = _
  rw [lk__law_cells]
  simp only [hp, if_true]
  rw [e1, e2, e3]
  rfl
theorem e_box (k : Nat) (j : Nat) (c : Int) (h : Hd) (hj : h.get j = some (.lst [.int c])) : ∃ x y, cl (k + 1) "_law_box" [.ref j, .int 0] h = .ok (.ref h.next) (h.new (.lst [.int x, .int y, .int 0])) := by
  have key : WE (cl (k + 1) "_law_box" [.ref j, .int 0] h) fun t h' => ∃ x y, t = .ref h.next ∧ h' = h.new (.lst [.int x, .int y, .int 0]) := by
    refine call_wr lk__law_box rfl rfl ?_
    dsimp only [d__law_box, List.map_cons, List.map_nil, List.cons_append, List.nil_append, List.append_nil, Nat.reduceSub, Nat.sub_self, List.replicate]
    have hx : opIx h (.v (.ref j)) (.v (.int 0)) = some (.v (.int c)) := ix_ref hj rfl
    repeat' (first | ((with_reducible apply w_slot); rfl) | (with_reducible apply w_non) | (with_reducible apply w_bl) | (with_reducible apply w_int) | (with_reducible apply w_str) | (with_reducible apply w_tup) | (with_reducible apply w_lst) | (with_reducible apply w_nil) | (with_reducible apply w_cons) | (with_reducible apply w_star) | (with_reducible apply w_bin) | (with_reducible apply w_cmp) | (with_reducible apply w_chain) | (with_reducible apply w_isN) | (with_reducible apply w_notN) | (with_reducible apply w_andW) | (with_reducible apply w_orW) | (with_reducible apply w_not) | (with_reducible apply w_neg) | (with_reducible apply w_ite) | (with_reducible apply w_f1) | (with_reducible apply w_f2) | (with_reducible apply w_isi) | (with_reducible apply w_ix) | (with_reducible apply w_slAll) | (with_reducible apply w_slL) | (with_reducible apply w_slU) | (with_reducible apply w_slLU) | (with_reducible apply w_pop0) | (with_reducible apply w_meth1) | (with_reducible apply w_lcA) | (with_reducible apply w_lsR1) | (with_reducible apply w_lsR2) | (with_reducible apply w_lsZ) | (with_reducible apply w_srtSet) | (with_reducible apply i_seqW) | (with_reducible apply i_rng1W) | (with_reducible apply i_rng2W) | (with_reducible apply i_enumW) | (with_reducible apply i_zipW) | (with_reducible apply s_exprW) | (with_reducible apply s_retW) | (with_reducible apply s_retNW) | (with_reducible apply s_asgW) | (with_reducible apply s_asgT) | (with_reducible apply s_parW) | (with_reducible apply s_iteW) | (with_reducible apply ss_nilW) | (with_reducible apply ss_consW) | (with_reducible apply w_call) | (with_reducible apply WL.v) | (with_reducible apply WL.l) | ((with_reducible apply exW); (with_reducible first | exact len_ref hj | exact hx | exact mul_I2 (i := 39373) rfl | exact mul_I (sm01 _))) | ((with_reducible apply exW); first | (with_reducible exact eq_i) | (with_reducible exact eq_I) | (with_reducible exact ne_I) | (with_reducible exact ne_i) | (with_reducible exact len_I) | (with_reducible exact sl_last) | (with_reducible exact sl_take (by omega)) | (with_reducible exact sl_drop (by omega)) | (with_reducible exact mod_I (by omega)) | (with_reducible exact div_I (by omega) (by omega)) | (with_reducible exact cat_I (by omega))) | ((with_reducible apply fewW); (focus ((show _ ≤ 16777216); simp; done))) | ((with_reducible apply exW2); rfl) | ((with_reducible apply exW); rfl) | (exfalso; revert hk; decide) | (exfalso; revert hk; simp; done) | intro hk)
    all_goals exact ⟨_, _, rfl, rfl⟩
  obtain ⟨t, h', e1, x, y, e2, e3⟩ := key.get
  exact ⟨x, y, by rw [e1, e2, e3]⟩
end K01
end

section
set_option Elab.async false
set_option linter.all false
set_option maxRecDepth 100000
set_option maxHeartbeats 1000000
namespace K01
open PySem Pv
/-! ### lists made of rows -/
theorem e_li0 (k : Nat) (i : Int) (h : Hd) : cl (k + 1) "_law_lists" [.int i] h = .ok (.int i) h := by
  refine call_w lk__law_lists rfl rfl rfl (fun n => ?_) h
  dsimp only [d__law_lists, List.map_cons, List.map_nil, List.cons_append, List.nil_append, List.append_nil, Nat.reduceSub, Nat.sub_self, List.replicate]
  repeat' (first | ((with_reducible apply w_slot); rfl) | (with_reducible apply w_non) | (with_reducible apply w_bl) | (with_reducible apply w_int) | (with_reducible apply w_str) | (with_reducible apply w_tup) | (with_reducible apply w_lst) | (with_reducible apply w_nil) | (with_reducible apply w_cons) | (with_reducible apply w_star) | (with_reducible apply w_bin) | (with_reducible apply w_cmp) | (with_reducible apply w_chain) | (with_reducible apply w_isN) | (with_reducible apply w_notN) | (with_reducible apply w_andW) | (with_reducible apply w_orW) | (with_reducible apply w_not) | (with_reducible apply w_neg) | (with_reducible apply w_ite) | (with_reducible apply w_f1) | (with_reducible apply w_f2) | (with_reducible apply w_isi) | (with_reducible apply w_ix) | (with_reducible apply w_slAll) | (with_reducible apply w_slL) | (with_reducible apply w_slU) | (with_reducible apply w_slLU) | (with_reducible apply w_pop0) | (with_reducible apply w_meth1) | (with_reducible apply w_lcA) | (with_reducible apply w_lsR1) | (with_reducible apply w_lsR2) | (with_reducible apply w_lsZ) | (with_reducible apply w_srtSet) | (with_reducible apply i_seqW) | (with_reducible apply i_rng1W) | (with_reducible apply i_rng2W) | (with_reducible apply i_enumW) | (with_reducible apply i_zipW) | (with_reducible apply s_exprW) | (with_reducible apply s_retW) | (with_reducible apply s_retNW) | (with_reducible apply s_asgW) | (with_reducible apply s_asgT) | (with_reducible apply s_parW) | (with_reducible apply s_iteW) | (with_reducible apply ss_nilW) | (with_reducible apply ss_consW) | (with_reducible apply w_call) | (with_reducible apply WL.v) | (with_reducible apply WL.l) | ((with_reducible apply exW); first | (with_reducible exact eq_i) | (with_reducible exact eq_I) | (with_reducible exact ne_I) | (with_reducible exact ne_i) | (with_reducible exact len_I) | (with_reducible exact sl_last) | (with_reducible exact sl_take (by omega)) | (with_reducible exact sl_drop (by omega)) | (with_reducible exact mod_I (by omega)) | (with_reducible exact div_I (by omega) (by omega)) | (with_reducible exact cat_I (by omega))) | ((with_reducible apply fewW); (focus ((show _ ≤ 16777216); simp; done))) | ((with_reducible apply exW2); rfl) | ((with_reducible apply exW); rfl) | (exfalso; revert hk; decide) | (exfalso; revert hk; simp; done) | intro hk)
  all_goals rfl
theorem e_li1 (k : Nat) (l : List Int) (hl : l.length ≤ 5000) (h : Hd) : cl (k + 2) "_law_lists" [tI l] h = .ok (.ref h.next) (h.new (.lst (ti l))) := by
  refine call_l lk__law_lists (by show (T.pures (ti l) && true) = true; rw [pures_ti]; rfl) rfl h ?_
  dsimp only [d__law_lists, List.map_cons, List.map_nil, List.cons_append, List.nil_append, List.append_nil, Nat.reduceSub, Nat.sub_self, List.replicate]
  repeat' (first | ((with_reducible apply w_slot); rfl) | (with_reducible apply w_non) | (with_reducible apply w_bl) | (with_reducible apply w_int) | (with_reducible apply w_str) | (with_reducible apply w_tup) | (with_reducible apply w_lst) | (with_reducible apply w_nil) | (with_reducible apply w_cons) | (with_reducible apply w_star) | (with_reducible apply w_bin) | (with_reducible apply w_cmp) | (with_reducible apply w_chain) | (with_reducible apply w_isN) | (with_reducible apply w_notN) | (with_reducible apply w_andW) | (with_reducible apply w_orW) | (with_reducible apply w_not) | (with_reducible apply w_neg) | (with_reducible apply w_ite) | (with_reducible apply w_f1) | (with_reducible apply w_f2) | (with_reducible apply w_isi) | (with_reducible apply w_ix) | (with_reducible apply w_slAll) | (with_reducible apply w_slL) | (with_reducible apply w_slU) | (with_reducible apply w_slLU) | (with_reducible apply w_pop0) | (with_reducible apply w_meth1) | (with_reducible apply w_lcA) | (with_reducible apply w_lsR1) | (with_reducible apply w_lsR2) | (with_reducible apply w_lsZ) | (with_reducible apply w_srtSet) | (with_reducible apply i_seqW) | (with_reducible apply i_rng1W) | (with_reducible apply i_rng2W) | (with_reducible apply i_enumW) | (with_reducible apply i_zipW) | (with_reducible apply s_exprW) | (with_reducible apply s_retW) | (with_reducible apply s_retNW) | (with_reducible apply s_asgW) | (with_reducible apply s_asgT) | (with_reducible apply s_parW) | (with_reducible apply s_iteW) | (with_reducible apply ss_nilW) | (with_reducible apply ss_consW) | (with_reducible apply w_call) | (with_reducible apply WL.v) | (with_reducible apply WL.l) | ((with_reducible apply exW); first | (with_reducible exact eq_i) | (with_reducible exact eq_I) | (with_reducible exact ne_I) | (with_reducible exact ne_i) | (with_reducible exact len_I) | (with_reducible exact sl_last) | (with_reducible exact sl_take (by omega)) | (with_reducible exact sl_drop (by omega)) | (with_reducible exact mod_I (by omega)) | (with_reducible exact div_I (by omega) (by omega)) | (with_reducible exact cat_I (by omega))) | ((with_reducible apply fewW); (focus ((show _ ≤ 16777216); simp; done))) | ((with_reducible apply exW2); rfl) | ((with_reducible apply exW); rfl) | (exfalso; revert hk; decide) | (exfalso; revert hk; simp; done) | intro hk)
  refine ⟨l, T.int, fun i => some (.int i), fix_tp, by show l.length < 100000; omega, by show 100000 ≤ 16777216; omega, fun i hi => ⟨_, rfl, c_nilW ⟨fun _ => ?_, fun z => by cases z⟩⟩, ?_⟩
  · repeat' (first | ((with_reducible apply w_slot); rfl) | (with_reducible apply w_non) | (with_reducible apply w_bl) | (with_reducible apply w_int) | (with_reducible apply w_str) | (with_reducible apply w_tup) | (with_reducible apply w_lst) | (with_reducible apply w_nil) | (with_reducible apply w_cons) | (with_reducible apply w_star) | (with_reducible apply w_bin) | (with_reducible apply w_cmp) | (with_reducible apply w_chain) | (with_reducible apply w_isN) | (with_reducible apply w_notN) | (with_reducible apply w_andW) | (with_reducible apply w_orW) | (with_reducible apply w_not) | (with_reducible apply w_neg) | (with_reducible apply w_ite) | (with_reducible apply w_f1) | (with_reducible apply w_f2) | (with_reducible apply w_isi) | (with_reducible apply w_ix) | (with_reducible apply w_slAll) | (with_reducible apply w_slL) | (with_reducible apply w_slU) | (with_reducible apply w_slLU) | (with_reducible apply w_pop0) | (with_reducible apply w_meth1) | (with_reducible apply w_lcA) | (with_reducible apply w_lsR1) | (with_reducible apply w_lsR2) | (with_reducible apply w_lsZ) | (with_reducible apply w_srtSet) | (with_reducible apply i_seqW) | (with_reducible apply i_rng1W) | (with_reducible apply i_rng2W) | (with_reducible apply i_enumW) | (with_reducible apply i_zipW) | (with_reducible apply s_exprW) | (with_reducible apply s_retW) | (with_reducible apply s_retNW) | (with_reducible apply s_asgW) | (with_reducible apply s_asgT) | (with_reducible apply s_parW) | (with_reducible apply s_iteW) | (with_reducible apply ss_nilW) | (with_reducible apply ss_consW) | (with_reducible apply w_call) | (with_reducible apply WL.v) | (with_reducible apply WL.l) | ((with_reducible apply WE.cl); (exact e_li0 k i _)) | ((with_reducible apply exW); first | (with_reducible exact eq_i) | (with_reducible exact eq_I) | (with_reducible exact ne_I) | (with_reducible exact ne_i) | (with_reducible exact len_I) | (with_reducible exact sl_last) | (with_reducible exact sl_take (by omega)) | (with_reducible exact sl_drop (by omega)) | (with_reducible exact mod_I (by omega)) | (with_reducible exact div_I (by omega) (by omega)) | (with_reducible exact cat_I (by omega))) | ((with_reducible apply fewW); (focus ((show _ ≤ 16777216); simp; done))) | ((with_reducible apply exW2); rfl) | ((with_reducible apply exW); rfl) | (exfalso; revert hk; decide) | (exfalso; revert hk; simp; done) | intro hk)
    all_goals exact ⟨rfl, rfl⟩
  · have : l.filterMap (fun i => some (T.int i)) = ti l := by rw [filterMap_some] <;> rfl
    rw [this]
    repeat' (first | ((with_reducible apply w_slot); rfl) | (with_reducible apply w_non) | (with_reducible apply w_bl) | (with_reducible apply w_int) | (with_reducible apply w_str) | (with_reducible apply w_tup) | (with_reducible apply w_lst) | (with_reducible apply w_nil) | (with_reducible apply w_cons) | (with_reducible apply w_star) | (with_reducible apply w_bin) | (with_reducible apply w_cmp) | (with_reducible apply w_chain) | (with_reducible apply w_isN) | (with_reducible apply w_notN) | (with_reducible apply w_andW) | (with_reducible apply w_orW) | (with_reducible apply w_not) | (with_reducible apply w_neg) | (with_reducible apply w_ite) | (with_reducible apply w_f1) | (with_reducible apply w_f2) | (with_reducible apply w_isi) | (with_reducible apply w_ix) | (with_reducible apply w_slAll) | (with_reducible apply w_slL) | (with_reducible apply w_slU) | (with_reducible apply w_slLU) | (with_reducible apply w_pop0) | (with_reducible apply w_meth1) | (with_reducible apply w_lcA) | (with_reducible apply w_lsR1) | (with_reducible apply w_lsR2) | (with_reducible apply w_lsZ) | (with_reducible apply w_srtSet) | (with_reducible apply i_seqW) | (with_reducible apply i_rng1W) | (with_reducible apply i_rng2W) | (with_reducible apply i_enumW) | (with_reducible apply i_zipW) | (with_reducible apply s_exprW) | (with_reducible apply s_retW) | (with_reducible apply s_retNW) | (with_reducible apply s_asgW) | (with_reducible apply s_asgT) | (with_reducible apply s_parW) | (with_reducible apply s_iteW) | (with_reducible apply ss_nilW) | (with_reducible apply ss_consW) | (with_reducible apply w_call) | (with_reducible apply WL.v) | (with_reducible apply WL.l) | ((with_reducible apply exW); first | (with_reducible exact eq_i) | (with_reducible exact eq_I) | (with_reducible exact ne_I) | (with_reducible exact ne_i) | (with_reducible exact len_I) | (with_reducible exact sl_last) | (with_reducible exact sl_take (by omega)) | (with_reducible exact sl_drop (by omega)) | (with_reducible exact mod_I (by omega)) | (with_reducible exact div_I (by omega) (by omega)) | (with_reducible exact cat_I (by omega))) | ((with_reducible apply fewW); (focus ((show _ ≤ 16777216); simp; done))) | ((with_reducible apply exW2); rfl) | ((with_reducible apply exW); rfl) | (exfalso; revert hk; decide) | (exfalso; revert hk; simp; done) | intro hk)
    all_goals exact ⟨rfl, rfl⟩
theorem turns_more {v : ItV} {body : T → Hd → Res (Option T)} {k n : Nat} {acc : List T} {h h' : Hd} {t y : T} (e : v.at h n = some (some t)) (b : body t h = .ok (some y) h') (l : acc.length < lim) : turns v body (k + 1) n acc h = turns v body k (n + 1) (acc ++ [y]) h' := by
  show (match v.at h n with
    | some none => Res.ok acc h
    | some (some t) => (body t h).bind fun o h' => match o with
      | some y => if acc.length < lim then turns v body k (n + 1) (acc ++ [y]) h' else .fail
      | none => turns v body k (n + 1) acc h'
    | none => .fail) = _
  rw [e]
  show (body t h).bind _ = _
  rw [b]
  show (if acc.length < lim then turns v body k (n + 1) (acc ++ [y]) h' else .fail) = _
  rw [if_pos l]
theorem turns_end {v : ItV} {body : T → Hd → Res (Option T)} {k n : Nat} {acc : List T} {h : Hd} (e : v.at h n = some none) : turns v body (k + 1) n acc h = .ok acc h := by
  show (match v.at h n with
    | some none => Res.ok acc h
    | some (some t) => (body t h).bind fun o h' => match o with
      | some y => if acc.length < lim then turns v body k (n + 1) (acc ++ [y]) h' else .fail
      | none => turns v body k (n + 1) acc h'
    | none => .fail) = _
  rw [e]
/-- two lists, and a list of them -/
def li2 (h : Hd) (a b : List Int) : Hd := ((h.new (.lst (ti a))).new (.lst (ti b))).new (.lst [.ref h.next, .ref (h.next + 1)])
theorem e_li2 (k : Nat) (a b : List Int) (ha : a.length ≤ 5000) (hb : b.length ≤ 5000) (h : Hd) : cl (k + 3) "_law_lists" [las (a, b)] h = .ok (.ref (h.next + 2)) (li2 h a b) := by
  have key : WE (runDf ⟨callN pd.DL pd.glob 100000 (k + 2), pd.glob, 100000⟩ d__law_lists [las (a, b)] ⟨h.next, []⟩) fun t h' => t = .ref (h.next + 2) ∧ h' = li2 ⟨h.next, []⟩ a b := by
    refine run_w rfl ?_
    dsimp only [d__law_lists, List.map_cons, List.map_nil, List.cons_append, List.nil_append, List.append_nil, Nat.reduceSub, Nat.sub_self, List.replicate]
    with_reducible apply ss_consW
    with_reducible apply s_retW
    with_reducible apply w_ite
    with_reducible apply w_isi
    with_reducible apply w_slot
    · rfl
    refine exW (z := true) rfl ?_
    refine exW2 (k := true) rfl (fun _ => ?_) fun z => by cases z
    with_reducible apply w_lc
    with_reducible apply i_seqW
    with_reducible apply w_slot
    · rfl
    refine exW (z := .tp [tI a, tI b]) rfl ?_
    let bd : T → Hd → Res (Option T) := fun t h => match bindT (.nm 1) t (wipe [some (las (a, b)), none] [1]) with
      | some ρ' => ((evC ⟨callN pd.DL pd.glob 100000 (k + 2), pd.glob, 100000⟩ .nil ρ' h).bind fun b h => if b then (resV (evE ⟨callN pd.DL pd.glob 100000 (k + 2), pd.glob, 100000⟩ (.call "_law_lists" (.cons (.slot 1) .nil)) ρ' h)).bind fun y h => .ok (some y) h else .ok none h).dead
      | none => .fail
    have hbd : ∀ (l : List Int) (h : Hd), l.length ≤ 5000 → bd (tI l) h = .ok (some (.ref h.next)) (h.new (.lst (ti l))) := fun l h hl => by
      have e : evE ⟨callN pd.DL pd.glob 100000 (k + 2), pd.glob, 100000⟩ (.call "_law_lists" (.cons (.slot 1) .nil)) [some (las (a, b)), some (tI l)] h = .ok (.v (.ref h.next)) (h.new (.lst (ti l))) := by
        obtain ⟨x, h', e1, e2, e3⟩ := (show WE (evE ⟨callN pd.DL pd.glob 100000 (k + 2), pd.glob, 100000⟩ (.call "_law_lists" (.cons (.slot 1) .nil)) [some (las (a, b)), some (tI l)] h) (fun x h' => x = .v (.ref h.next) ∧ h' = h.new (.lst (ti l))) by
          repeat' (first | ((with_reducible apply w_slot); rfl) | (with_reducible apply w_non) | (with_reducible apply w_bl) | (with_reducible apply w_int) | (with_reducible apply w_str) | (with_reducible apply w_tup) | (with_reducible apply w_lst) | (with_reducible apply w_nil) | (with_reducible apply w_cons) | (with_reducible apply w_star) | (with_reducible apply w_bin) | (with_reducible apply w_cmp) | (with_reducible apply w_chain) | (with_reducible apply w_isN) | (with_reducible apply w_notN) | (with_reducible apply w_andW) | (with_reducible apply w_orW) | (with_reducible apply w_not) | (with_reducible apply w_neg) | (with_reducible apply w_ite) | (with_reducible apply w_f1) | (with_reducible apply w_f2) | (with_reducible apply w_isi) | (with_reducible apply w_ix) | (with_reducible apply w_slAll) | (with_reducible apply w_slL) | (with_reducible apply w_slU) | (with_reducible apply w_slLU) | (with_reducible apply w_pop0) | (with_reducible apply w_meth1) | (with_reducible apply w_lcA) | (with_reducible apply w_lsR1) | (with_reducible apply w_lsR2) | (with_reducible apply w_lsZ) | (with_reducible apply w_srtSet) | (with_reducible apply i_seqW) | (with_reducible apply i_rng1W) | (with_reducible apply i_rng2W) | (with_reducible apply i_enumW) | (with_reducible apply i_zipW) | (with_reducible apply s_exprW) | (with_reducible apply s_retW) | (with_reducible apply s_retNW) | (with_reducible apply s_asgW) | (with_reducible apply s_asgT) | (with_reducible apply s_parW) | (with_reducible apply s_iteW) | (with_reducible apply ss_nilW) | (with_reducible apply ss_consW) | (with_reducible apply w_call) | (with_reducible apply WL.v) | (with_reducible apply WL.l) | ((with_reducible apply WE.cl); (exact e_li1 k l hl _)) | ((with_reducible apply exW); first | (with_reducible exact eq_i) | (with_reducible exact eq_I) | (with_reducible exact ne_I) | (with_reducible exact ne_i) | (with_reducible exact len_I) | (with_reducible exact sl_last) | (with_reducible exact sl_take (by omega)) | (with_reducible exact sl_drop (by omega)) | (with_reducible exact mod_I (by omega)) | (with_reducible exact div_I (by omega) (by omega)) | (with_reducible exact cat_I (by omega))) | ((with_reducible apply fewW); (focus ((show _ ≤ 16777216); simp; done))) | ((with_reducible apply exW2); rfl) | ((with_reducible apply exW); rfl) | (exfalso; revert hk; decide) | (exfalso; revert hk; simp; done) | intro hk)
          all_goals exact ⟨rfl, rfl⟩).get
        rw [e1, e2, e3]
      show ((resV (evE ⟨callN pd.DL pd.glob 100000 (k + 2), pd.glob, 100000⟩ (.call "_law_lists" (.cons (.slot 1) .nil)) [some (las (a, b)), some (tI l)] h)).bind fun y h => Res.ok (some y) h).dead = _
      rw [e]
      rfl
    have ht : turns (.one (.tp [tI a, tI b])) bd (99997 + 1 + 1 + 1) 0 [] ⟨h.next, []⟩ = .ok [.ref h.next, .ref (h.next + 1)] (((⟨h.next, []⟩ : Hd).new (.lst (ti a))).new (.lst (ti b))) := by
      rw [turns_more (t := tI a) rfl (hbd a _ ha) (by show 0 < 16777216; decide), turns_more (t := tI b) rfl (hbd b _ hb) (by show 1 < 16777216; decide), turns_end rfl]
      rfl
    refine WE.eq ht ?_
    exact ⟨rfl, rfl⟩
  obtain ⟨x, h', e1, e2, e3⟩ := key.get
  show (match pd.DL.lookup ("_law_lists" : Str) with | some d => if T.pures [las (a, b)] then after h (runDf ⟨callN pd.DL pd.glob 100000 (k + 2), pd.glob, 100000⟩ d [las (a, b)] ⟨h.next, []⟩) else runDf ⟨callN pd.DL pd.glob 100000 (k + 2), pd.glob, 100000⟩ d [las (a, b)] h | none => .fail) = _
  rw [lk__law_lists]
  simp only [pur_l, if_true]
  rw [e1, e2, e3]
  rfl
theorem li2_c {h : Hd} {a b : List Int} : (li2 h a b).get (h.next + 2) = some (.lst [.ref h.next, .ref (h.next + 1)]) := get_new_same
theorem li2_b {h : Hd} {a b : List Int} : (li2 h a b).get (h.next + 1) = some (.lst (ti b)) := by
  unfold li2
  rw [get_new_ne (by show h.next + 1 < h.next + 2; omega)]
  exact get_new_same
theorem li2_a {h : Hd} {a b : List Int} : (li2 h a b).get h.next = some (.lst (ti a)) := by
  unfold li2
  rw [get_new_ne (by show h.next < h.next + 2; omega), get_new_ne (by show h.next < h.next + 1; omega)]
  exact get_new_same
theorem li2_kp {i : Nat} {h : Hd} {a b : List Int} : Kp i h (li2 h a b) := (Kp.new.trans Kp.new).trans Kp.new
theorem Box.li2 {i n : Nat} {h : Hd} {a b : List Int} (bx : Box i n h) : Box i n (K01.li2 h a b) := bx.new.new.new
/-! tuple_of lists -/
theorem e_tupr1 (k : Nat) (j : Nat) (l : List Int) (hl : l.length ≤ 5000) (h : Hd) (hj : h.get j = some (.lst (ti l))) : cl (k + 2) "tuple_of" [.ref j] h = .ok (tI l) h := by
  refine call_h lk_tuple_of rfl rfl h ?_
  dsimp only [d_tuple_of, List.map_cons, List.map_nil, List.cons_append, List.nil_append, List.append_nil, Nat.reduceSub, Nat.sub_self, List.replicate]
  have hi : opIsi h (.v (.ref j)) ["list", "tuple"] = some true := by
    show ((match h.get j with | some _ => some "list" | none => none : Option String).map fun a => ["list", "tuple"].any fun b => isTy a b) = _
    rw [hj] <;> rfl
  repeat' (first | ((with_reducible apply w_slot); rfl) | (with_reducible apply w_non) | (with_reducible apply w_bl) | (with_reducible apply w_int) | (with_reducible apply w_str) | (with_reducible apply w_tup) | (with_reducible apply w_lst) | (with_reducible apply w_nil) | (with_reducible apply w_cons) | (with_reducible apply w_star) | (with_reducible apply w_bin) | (with_reducible apply w_cmp) | (with_reducible apply w_chain) | (with_reducible apply w_isN) | (with_reducible apply w_notN) | (with_reducible apply w_andW) | (with_reducible apply w_orW) | (with_reducible apply w_not) | (with_reducible apply w_neg) | (with_reducible apply w_ite) | (with_reducible apply w_f1) | (with_reducible apply w_f2) | (with_reducible apply w_isi) | (with_reducible apply w_ix) | (with_reducible apply w_slAll) | (with_reducible apply w_slL) | (with_reducible apply w_slU) | (with_reducible apply w_slLU) | (with_reducible apply w_pop0) | (with_reducible apply w_meth1) | (with_reducible apply w_lcA) | (with_reducible apply w_lsR1) | (with_reducible apply w_lsR2) | (with_reducible apply w_lsZ) | (with_reducible apply w_srtSet) | (with_reducible apply i_seqW) | (with_reducible apply i_rng1W) | (with_reducible apply i_rng2W) | (with_reducible apply i_enumW) | (with_reducible apply i_zipW) | (with_reducible apply s_exprW) | (with_reducible apply s_retW) | (with_reducible apply s_retNW) | (with_reducible apply s_asgW) | (with_reducible apply s_asgT) | (with_reducible apply s_parW) | (with_reducible apply s_iteW) | (with_reducible apply ss_nilW) | (with_reducible apply ss_consW) | (with_reducible apply w_call) | (with_reducible apply WL.v) | (with_reducible apply WL.l) | ((with_reducible apply exW); (with_reducible first | exact hi | exact biOf_ref hj)) | ((with_reducible apply exW); first | (with_reducible exact eq_i) | (with_reducible exact eq_I) | (with_reducible exact ne_I) | (with_reducible exact ne_i) | (with_reducible exact len_I) | (with_reducible exact sl_last) | (with_reducible exact sl_take (by omega)) | (with_reducible exact sl_drop (by omega)) | (with_reducible exact mod_I (by omega)) | (with_reducible exact div_I (by omega) (by omega)) | (with_reducible exact cat_I (by omega))) | ((with_reducible apply fewW); (focus ((show _ ≤ 16777216); simp; done))) | ((with_reducible apply exW2); rfl) | ((with_reducible apply exW); rfl) | (exfalso; revert hk; decide) | (exfalso; revert hk; simp; done) | intro hk)
  refine ⟨l, T.int, fun i => some (.int i), fix_lv hj, by show l.length < 100000; omega, by show 100000 ≤ 16777216; omega, fun i hi => ⟨_, rfl, c_nilW ⟨fun _ => ?_, fun z => by cases z⟩⟩, ?_⟩
  · repeat' (first | ((with_reducible apply w_slot); rfl) | (with_reducible apply w_non) | (with_reducible apply w_bl) | (with_reducible apply w_int) | (with_reducible apply w_str) | (with_reducible apply w_tup) | (with_reducible apply w_lst) | (with_reducible apply w_nil) | (with_reducible apply w_cons) | (with_reducible apply w_star) | (with_reducible apply w_bin) | (with_reducible apply w_cmp) | (with_reducible apply w_chain) | (with_reducible apply w_isN) | (with_reducible apply w_notN) | (with_reducible apply w_andW) | (with_reducible apply w_orW) | (with_reducible apply w_not) | (with_reducible apply w_neg) | (with_reducible apply w_ite) | (with_reducible apply w_f1) | (with_reducible apply w_f2) | (with_reducible apply w_isi) | (with_reducible apply w_ix) | (with_reducible apply w_slAll) | (with_reducible apply w_slL) | (with_reducible apply w_slU) | (with_reducible apply w_slLU) | (with_reducible apply w_pop0) | (with_reducible apply w_meth1) | (with_reducible apply w_lcA) | (with_reducible apply w_lsR1) | (with_reducible apply w_lsR2) | (with_reducible apply w_lsZ) | (with_reducible apply w_srtSet) | (with_reducible apply i_seqW) | (with_reducible apply i_rng1W) | (with_reducible apply i_rng2W) | (with_reducible apply i_enumW) | (with_reducible apply i_zipW) | (with_reducible apply s_exprW) | (with_reducible apply s_retW) | (with_reducible apply s_retNW) | (with_reducible apply s_asgW) | (with_reducible apply s_asgT) | (with_reducible apply s_parW) | (with_reducible apply s_iteW) | (with_reducible apply ss_nilW) | (with_reducible apply ss_consW) | (with_reducible apply w_call) | (with_reducible apply WL.v) | (with_reducible apply WL.l) | ((with_reducible apply WE.cl); (exact e_tup 1 (.int i) rfl (Nat.le_refl _) (Nat.zero_le _) k _)) | ((with_reducible apply exW); first | (with_reducible exact eq_i) | (with_reducible exact eq_I) | (with_reducible exact ne_I) | (with_reducible exact ne_i) | (with_reducible exact len_I) | (with_reducible exact sl_last) | (with_reducible exact sl_take (by omega)) | (with_reducible exact sl_drop (by omega)) | (with_reducible exact mod_I (by omega)) | (with_reducible exact div_I (by omega) (by omega)) | (with_reducible exact cat_I (by omega))) | ((with_reducible apply fewW); (focus ((show _ ≤ 16777216); simp; done))) | ((with_reducible apply exW2); rfl) | ((with_reducible apply exW); rfl) | (exfalso; revert hk; decide) | (exfalso; revert hk; simp; done) | intro hk)
    all_goals exact ⟨rfl, rfl⟩
  · have : l.filterMap (fun i => some (T.int i)) = ti l := by rw [filterMap_some] <;> rfl
    rw [this]
    repeat' (first | ((with_reducible apply w_slot); rfl) | (with_reducible apply w_non) | (with_reducible apply w_bl) | (with_reducible apply w_int) | (with_reducible apply w_str) | (with_reducible apply w_tup) | (with_reducible apply w_lst) | (with_reducible apply w_nil) | (with_reducible apply w_cons) | (with_reducible apply w_star) | (with_reducible apply w_bin) | (with_reducible apply w_cmp) | (with_reducible apply w_chain) | (with_reducible apply w_isN) | (with_reducible apply w_notN) | (with_reducible apply w_andW) | (with_reducible apply w_orW) | (with_reducible apply w_not) | (with_reducible apply w_neg) | (with_reducible apply w_ite) | (with_reducible apply w_f1) | (with_reducible apply w_f2) | (with_reducible apply w_isi) | (with_reducible apply w_ix) | (with_reducible apply w_slAll) | (with_reducible apply w_slL) | (with_reducible apply w_slU) | (with_reducible apply w_slLU) | (with_reducible apply w_pop0) | (with_reducible apply w_meth1) | (with_reducible apply w_lcA) | (with_reducible apply w_lsR1) | (with_reducible apply w_lsR2) | (with_reducible apply w_lsZ) | (with_reducible apply w_srtSet) | (with_reducible apply i_seqW) | (with_reducible apply i_rng1W) | (with_reducible apply i_rng2W) | (with_reducible apply i_enumW) | (with_reducible apply i_zipW) | (with_reducible apply s_exprW) | (with_reducible apply s_retW) | (with_reducible apply s_retNW) | (with_reducible apply s_asgW) | (with_reducible apply s_asgT) | (with_reducible apply s_parW) | (with_reducible apply s_iteW) | (with_reducible apply ss_nilW) | (with_reducible apply ss_consW) | (with_reducible apply w_call) | (with_reducible apply WL.v) | (with_reducible apply WL.l) | ((with_reducible apply exW); first | (with_reducible exact eq_i) | (with_reducible exact eq_I) | (with_reducible exact ne_I) | (with_reducible exact ne_i) | (with_reducible exact len_I) | (with_reducible exact sl_last) | (with_reducible exact sl_take (by omega)) | (with_reducible exact sl_drop (by omega)) | (with_reducible exact mod_I (by omega)) | (with_reducible exact div_I (by omega) (by omega)) | (with_reducible exact cat_I (by omega))) | ((with_reducible apply fewW); (focus ((show _ ≤ 16777216); simp; done))) | ((with_reducible apply exW2); rfl) | ((with_reducible apply exW); rfl) | (exfalso; revert hk; decide) | (exfalso; revert hk; simp; done) | intro hk)
    all_goals exact ⟨rfl, rfl⟩
theorem e_tupr2 (k : Nat) (j ja jb : Nat) (a b : List Int) (ha : a.length ≤ 5000) (hb : b.length ≤ 5000) (h : Hd) (hj : h.get j = some (.lst [.ref ja, .ref jb])) (hja : h.get ja = some (.lst (ti a))) (hjb : h.get jb = some (.lst (ti b))) : cl (k + 3) "tuple_of" [.ref j] h = .ok (las (a, b)) h := by
  refine call_h lk_tuple_of rfl rfl h ?_
  dsimp only [d_tuple_of, List.map_cons, List.map_nil, List.cons_append, List.nil_append, List.append_nil, Nat.reduceSub, Nat.sub_self, List.replicate]
  have hi : opIsi h (.v (.ref j)) ["list", "tuple"] = some true := by
    show ((match h.get j with | some _ => some "list" | none => none : Option String).map fun a => ["list", "tuple"].any fun b => isTy a b) = _
    rw [hj] <;> rfl
  repeat' (first | ((with_reducible apply w_slot); rfl) | (with_reducible apply w_non) | (with_reducible apply w_bl) | (with_reducible apply w_int) | (with_reducible apply w_str) | (with_reducible apply w_tup) | (with_reducible apply w_lst) | (with_reducible apply w_nil) | (with_reducible apply w_cons) | (with_reducible apply w_star) | (with_reducible apply w_bin) | (with_reducible apply w_cmp) | (with_reducible apply w_chain) | (with_reducible apply w_isN) | (with_reducible apply w_notN) | (with_reducible apply w_andW) | (with_reducible apply w_orW) | (with_reducible apply w_not) | (with_reducible apply w_neg) | (with_reducible apply w_ite) | (with_reducible apply w_f1) | (with_reducible apply w_f2) | (with_reducible apply w_isi) | (with_reducible apply w_ix) | (with_reducible apply w_slAll) | (with_reducible apply w_slL) | (with_reducible apply w_slU) | (with_reducible apply w_slLU) | (with_reducible apply w_pop0) | (with_reducible apply w_meth1) | (with_reducible apply w_lcA) | (with_reducible apply w_lsR1) | (with_reducible apply w_lsR2) | (with_reducible apply w_lsZ) | (with_reducible apply w_srtSet) | (with_reducible apply i_seqW) | (with_reducible apply i_rng1W) | (with_reducible apply i_rng2W) | (with_reducible apply i_enumW) | (with_reducible apply i_zipW) | (with_reducible apply s_exprW) | (with_reducible apply s_retW) | (with_reducible apply s_retNW) | (with_reducible apply s_asgW) | (with_reducible apply s_asgT) | (with_reducible apply s_parW) | (with_reducible apply s_iteW) | (with_reducible apply ss_nilW) | (with_reducible apply ss_consW) | (with_reducible apply w_call) | (with_reducible apply WL.v) | (with_reducible apply WL.l) | ((with_reducible apply exW); (with_reducible first | exact hi | exact biOf_ref hj)) | ((with_reducible apply exW); first | (with_reducible exact eq_i) | (with_reducible exact eq_I) | (with_reducible exact ne_I) | (with_reducible exact ne_i) | (with_reducible exact len_I) | (with_reducible exact sl_last) | (with_reducible exact sl_take (by omega)) | (with_reducible exact sl_drop (by omega)) | (with_reducible exact mod_I (by omega)) | (with_reducible exact div_I (by omega) (by omega)) | (with_reducible exact cat_I (by omega))) | ((with_reducible apply fewW); (focus ((show _ ≤ 16777216); simp; done))) | ((with_reducible apply exW2); rfl) | ((with_reducible apply exW); rfl) | (exfalso; revert hk; decide) | (exfalso; revert hk; simp; done) | intro hk)
  refine ⟨[(ja, a), (jb, b)], fun q => .ref q.1, fun q => some (tI q.2), fix_lv hj, by show 2 < 100000; omega, by show 100000 ≤ 16777216; omega, fun q hq => ⟨_, rfl, c_nilW ⟨fun _ => ?_, fun z => by cases z⟩⟩, ?_⟩
  · have hc : q.2.length ≤ 5000 ∧ h.get q.1 = some (.lst (ti q.2)) := by
      rcases List.mem_cons.mp hq with e | hq
      · rw [e]; exact ⟨ha, hja⟩
      · rw [List.mem_singleton.mp hq]; exact ⟨hb, hjb⟩
    repeat' (first | ((with_reducible apply w_slot); rfl) | (with_reducible apply w_non) | (with_reducible apply w_bl) | (with_reducible apply w_int) | (with_reducible apply w_str) | (with_reducible apply w_tup) | (with_reducible apply w_lst) | (with_reducible apply w_nil) | (with_reducible apply w_cons) | (with_reducible apply w_star) | (with_reducible apply w_bin) | (with_reducible apply w_cmp) | (with_reducible apply w_chain) | (with_reducible apply w_isN) | (with_reducible apply w_notN) | (with_reducible apply w_andW) | (with_reducible apply w_orW) | (with_reducible apply w_not) | (with_reducible apply w_neg) | (with_reducible apply w_ite) | (with_reducible apply w_f1) | (with_reducible apply w_f2) | (with_reducible apply w_isi) | (with_reducible apply w_ix) | (with_reducible apply w_slAll) | (with_reducible apply w_slL) | (with_reducible apply w_slU) | (with_reducible apply w_slLU) | (with_reducible apply w_pop0) | (with_reducible apply w_meth1) | (with_reducible apply w_lcA) | (with_reducible apply w_lsR1) | (with_reducible apply w_lsR2) | (with_reducible apply w_lsZ) | (with_reducible apply w_srtSet) | (with_reducible apply i_seqW) | (with_reducible apply i_rng1W) | (with_reducible apply i_rng2W) | (with_reducible apply i_enumW) | (with_reducible apply i_zipW) | (with_reducible apply s_exprW) | (with_reducible apply s_retW) | (with_reducible apply s_retNW) | (with_reducible apply s_asgW) | (with_reducible apply s_asgT) | (with_reducible apply s_parW) | (with_reducible apply s_iteW) | (with_reducible apply ss_nilW) | (with_reducible apply ss_consW) | (with_reducible apply w_call) | (with_reducible apply WL.v) | (with_reducible apply WL.l) | ((with_reducible apply WE.cl); (exact e_tupr1 k q.1 q.2 hc.1 h hc.2)) | ((with_reducible apply exW); first | (with_reducible exact eq_i) | (with_reducible exact eq_I) | (with_reducible exact ne_I) | (with_reducible exact ne_i) | (with_reducible exact len_I) | (with_reducible exact sl_last) | (with_reducible exact sl_take (by omega)) | (with_reducible exact sl_drop (by omega)) | (with_reducible exact mod_I (by omega)) | (with_reducible exact div_I (by omega) (by omega)) | (with_reducible exact cat_I (by omega))) | ((with_reducible apply fewW); (focus ((show _ ≤ 16777216); simp; done))) | ((with_reducible apply exW2); rfl) | ((with_reducible apply exW); rfl) | (exfalso; revert hk; decide) | (exfalso; revert hk; simp; done) | intro hk)
    all_goals exact ⟨rfl, rfl⟩
  · repeat' (first | ((with_reducible apply w_slot); rfl) | (with_reducible apply w_non) | (with_reducible apply w_bl) | (with_reducible apply w_int) | (with_reducible apply w_str) | (with_reducible apply w_tup) | (with_reducible apply w_lst) | (with_reducible apply w_nil) | (with_reducible apply w_cons) | (with_reducible apply w_star) | (with_reducible apply w_bin) | (with_reducible apply w_cmp) | (with_reducible apply w_chain) | (with_reducible apply w_isN) | (with_reducible apply w_notN) | (with_reducible apply w_andW) | (with_reducible apply w_orW) | (with_reducible apply w_not) | (with_reducible apply w_neg) | (with_reducible apply w_ite) | (with_reducible apply w_f1) | (with_reducible apply w_f2) | (with_reducible apply w_isi) | (with_reducible apply w_ix) | (with_reducible apply w_slAll) | (with_reducible apply w_slL) | (with_reducible apply w_slU) | (with_reducible apply w_slLU) | (with_reducible apply w_pop0) | (with_reducible apply w_meth1) | (with_reducible apply w_lcA) | (with_reducible apply w_lsR1) | (with_reducible apply w_lsR2) | (with_reducible apply w_lsZ) | (with_reducible apply w_srtSet) | (with_reducible apply i_seqW) | (with_reducible apply i_rng1W) | (with_reducible apply i_rng2W) | (with_reducible apply i_enumW) | (with_reducible apply i_zipW) | (with_reducible apply s_exprW) | (with_reducible apply s_retW) | (with_reducible apply s_retNW) | (with_reducible apply s_asgW) | (with_reducible apply s_asgT) | (with_reducible apply s_parW) | (with_reducible apply s_iteW) | (with_reducible apply ss_nilW) | (with_reducible apply ss_consW) | (with_reducible apply w_call) | (with_reducible apply WL.v) | (with_reducible apply WL.l) | ((with_reducible apply exW); first | (with_reducible exact eq_i) | (with_reducible exact eq_I) | (with_reducible exact ne_I) | (with_reducible exact ne_i) | (with_reducible exact len_I) | (with_reducible exact sl_last) | (with_reducible exact sl_take (by omega)) | (with_reducible exact sl_drop (by omega)) | (with_reducible exact mod_I (by omega)) | (with_reducible exact div_I (by omega) (by omega)) | (with_reducible exact cat_I (by omega))) | ((with_reducible apply fewW); (focus ((show _ ≤ 16777216); simp; done))) | ((with_reducible apply exW2); rfl) | ((with_reducible apply exW); rfl) | (exfalso; revert hk; decide) | (exfalso; revert hk; simp; done) | intro hk)
    all_goals exact ⟨rfl, rfl⟩
end K01
end

section
set_option Elab.async false
set_option linter.all false
set_option maxRecDepth 100000
set_option maxHeartbeats 1000000
namespace K01
open PySem Pv
/-! ### the same things -/
mutual
def sm : T → Bool
  | .non => true
  | .int _ => true
  | .bl _ => true
  | .tup ts => sms ts
  | _ => false
def sms : List T → Bool
  | [] => true
  | t :: ts => sm t && sms ts
end
theorem sms_mem : ∀ {ts : List T} {t : T}, sms ts = true → t ∈ ts → sm t = true
  | u :: ts, t, h, m => by
    have h : (sm u && sms ts) = true := h
    rw [Bool.and_eq_true] at h
    rcases List.mem_cons.mp m with e | m
    · rw [e]; exact h.1
    · exact sms_mem h.2 m
mutual
theorem sm_pure : ∀ t : T, sm t = true → t.pure = true
  | .int _, _ => rfl
  | .bl _, _ => rfl
  | .tup ts, h => sms_pure ts h
  | .non, _ => rfl
  | .str _, h => by cases h
  | .fl _, h => by cases h
  | .ref _, h => by cases h
  | .fn _, h => by cases h
  | .ty _, h => by cases h
theorem sms_pure : ∀ ts : List T, sms ts = true → T.pures ts = true
  | [], _ => rfl
  | t :: ts, h => by
    have h : (sm t && sms ts) = true := h
    rw [Bool.and_eq_true] at h
    show (t.pure && T.pures ts) = true
    rw [sm_pure t h.1, sms_pure ts h.2] <;> rfl
end
theorem eq_b {h : Hd} (a b : Bool) : opC .eq h (.v (.bl a)) (.v (.bl b)) = some (a == b) := by cases a <;> cases b <;> rfl
theorem ne_b {h : Hd} (a b : Bool) : opC .ne h (.v (.bl a)) (.v (.bl b)) = some (!(a == b)) := by cases a <;> cases b <;> rfl
theorem zipT_same : ∀ ts : List T, zipT ts ts = ts.map fun t => T.tup [t, t]
  | [] => rfl
  | t :: ts => by show T.tup [t, t] :: zipT ts ts = _; rw [zipT_same ts] <;> rfl
theorem e_lsame : ∀ (d : Nat) (t : T), sm t = true → t.dep ≤ d → wid t ≤ 5000 → ∀ (k : Nat) (h : Hd), cl (k + d) "_law_same" [t, t] h = .ok (.bl true) h
  | 0, t, _, hd, _, _, _ => by cases t <;> simp [T.dep] at hd
  | d + 1, .int i, _, _, _, k, h => by
    refine call_w (k := k + d) lk__law_same rfl rfl rfl (fun n => ?_) h
    dsimp only [d__law_same, List.map_cons, List.map_nil, List.cons_append, List.nil_append, List.append_nil, Nat.reduceSub, Nat.sub_self, List.replicate]
    repeat' (first | ((with_reducible apply w_slot); rfl) | (with_reducible apply w_non) | (with_reducible apply w_bl) | (with_reducible apply w_int) | (with_reducible apply w_str) | (with_reducible apply w_tup) | (with_reducible apply w_lst) | (with_reducible apply w_nil) | (with_reducible apply w_cons) | (with_reducible apply w_star) | (with_reducible apply w_bin) | (with_reducible apply w_cmp) | (with_reducible apply w_chain) | (with_reducible apply w_isN) | (with_reducible apply w_notN) | (with_reducible apply w_andW) | (with_reducible apply w_orW) | (with_reducible apply w_not) | (with_reducible apply w_neg) | (with_reducible apply w_ite) | (with_reducible apply w_f1) | (with_reducible apply w_f2) | (with_reducible apply w_isi) | (with_reducible apply w_ix) | (with_reducible apply w_slAll) | (with_reducible apply w_slL) | (with_reducible apply w_slU) | (with_reducible apply w_slLU) | (with_reducible apply w_pop0) | (with_reducible apply w_meth1) | (with_reducible apply w_lcA) | (with_reducible apply w_lsR1) | (with_reducible apply w_lsR2) | (with_reducible apply w_lsZ) | (with_reducible apply w_srtSet) | (with_reducible apply i_seqW) | (with_reducible apply i_rng1W) | (with_reducible apply i_rng2W) | (with_reducible apply i_enumW) | (with_reducible apply i_zipW) | (with_reducible apply s_exprW) | (with_reducible apply s_retW) | (with_reducible apply s_retNW) | (with_reducible apply s_asgW) | (with_reducible apply s_asgT) | (with_reducible apply s_parW) | (with_reducible apply s_iteW) | (with_reducible apply ss_nilW) | (with_reducible apply ss_consW) | (with_reducible apply w_call) | (with_reducible apply WL.v) | (with_reducible apply WL.l) | ((with_reducible apply exW); first | (with_reducible exact eq_i) | (with_reducible exact eq_I) | (with_reducible exact ne_I) | (with_reducible exact ne_i) | (with_reducible exact len_I) | (with_reducible exact sl_last) | (with_reducible exact sl_take (by omega)) | (with_reducible exact sl_drop (by omega)) | (with_reducible exact mod_I (by omega)) | (with_reducible exact div_I (by omega) (by omega)) | (with_reducible exact cat_I (by omega))) | ((with_reducible apply fewW); (focus ((show _ ≤ 16777216); simp; done))) | ((with_reducible apply exW2); rfl) | ((with_reducible apply exW); rfl) | (exfalso; revert hk; decide) | (exfalso; revert hk; simp; done) | intro hk)
    all_goals first
      | (show T.bl (decide (i = i)) = T.bl true; rw [decide_eq_true rfl]; done)
      | rfl
  | d + 1, .bl b, _, _, _, k, h => by
    refine call_w (k := k + d) lk__law_same rfl rfl rfl (fun n => ?_) h
    dsimp only [d__law_same, List.map_cons, List.map_nil, List.cons_append, List.nil_append, List.append_nil, Nat.reduceSub, Nat.sub_self, List.replicate]
    repeat' (first | ((with_reducible apply w_slot); rfl) | (with_reducible apply w_non) | (with_reducible apply w_bl) | (with_reducible apply w_int) | (with_reducible apply w_str) | (with_reducible apply w_tup) | (with_reducible apply w_lst) | (with_reducible apply w_nil) | (with_reducible apply w_cons) | (with_reducible apply w_star) | (with_reducible apply w_bin) | (with_reducible apply w_cmp) | (with_reducible apply w_chain) | (with_reducible apply w_isN) | (with_reducible apply w_notN) | (with_reducible apply w_andW) | (with_reducible apply w_orW) | (with_reducible apply w_not) | (with_reducible apply w_neg) | (with_reducible apply w_ite) | (with_reducible apply w_f1) | (with_reducible apply w_f2) | (with_reducible apply w_isi) | (with_reducible apply w_ix) | (with_reducible apply w_slAll) | (with_reducible apply w_slL) | (with_reducible apply w_slU) | (with_reducible apply w_slLU) | (with_reducible apply w_pop0) | (with_reducible apply w_meth1) | (with_reducible apply w_lcA) | (with_reducible apply w_lsR1) | (with_reducible apply w_lsR2) | (with_reducible apply w_lsZ) | (with_reducible apply w_srtSet) | (with_reducible apply i_seqW) | (with_reducible apply i_rng1W) | (with_reducible apply i_rng2W) | (with_reducible apply i_enumW) | (with_reducible apply i_zipW) | (with_reducible apply s_exprW) | (with_reducible apply s_retW) | (with_reducible apply s_retNW) | (with_reducible apply s_asgW) | (with_reducible apply s_asgT) | (with_reducible apply s_parW) | (with_reducible apply s_iteW) | (with_reducible apply ss_nilW) | (with_reducible apply ss_consW) | (with_reducible apply w_call) | (with_reducible apply WL.v) | (with_reducible apply WL.l) | ((with_reducible apply exW); (with_reducible exact eq_b _ _)) | ((with_reducible apply exW); first | (with_reducible exact eq_i) | (with_reducible exact eq_I) | (with_reducible exact ne_I) | (with_reducible exact ne_i) | (with_reducible exact len_I) | (with_reducible exact sl_last) | (with_reducible exact sl_take (by omega)) | (with_reducible exact sl_drop (by omega)) | (with_reducible exact mod_I (by omega)) | (with_reducible exact div_I (by omega) (by omega)) | (with_reducible exact cat_I (by omega))) | ((with_reducible apply fewW); (focus ((show _ ≤ 16777216); simp; done))) | ((with_reducible apply exW2); rfl) | ((with_reducible apply exW); rfl) | (exfalso; revert hk; decide) | (exfalso; revert hk; simp; done) | intro hk)
    all_goals first
      | rfl
      | (exfalso; cases b <;> cases hk; done)
      | (exfalso; simp_all [isNon]; done)
      | (exfalso; revert hk; decide)
      | (cases b <;> rfl)
  | d + 1, .tup ts, hi, hd, hw, k, h => by
    have hd : T.deps ts + 1 ≤ d + 1 := hd
    have hw : max ts.length (wids ts) ≤ 5000 := hw
    have hi : sms ts = true := hi
    have hp : T.pures ts = true := sms_pure ts hi
    refine call_w (k := k + d) lk__law_same (by show (T.pures ts && (T.pures ts && true)) = true; rw [hp]; rfl) rfl rfl (fun n => ?_) h
    dsimp only [d__law_same, List.map_cons, List.map_nil, List.cons_append, List.nil_append, List.append_nil, Nat.reduceSub, Nat.sub_self, List.replicate]
    repeat' (first | ((with_reducible apply w_slot); rfl) | (with_reducible apply w_non) | (with_reducible apply w_bl) | (with_reducible apply w_int) | (with_reducible apply w_str) | (with_reducible apply w_tup) | (with_reducible apply w_lst) | (with_reducible apply w_nil) | (with_reducible apply w_cons) | (with_reducible apply w_star) | (with_reducible apply w_bin) | (with_reducible apply w_cmp) | (with_reducible apply w_chain) | (with_reducible apply w_isN) | (with_reducible apply w_notN) | (with_reducible apply w_andW) | (with_reducible apply w_orW) | (with_reducible apply w_not) | (with_reducible apply w_neg) | (with_reducible apply w_ite) | (with_reducible apply w_f1) | (with_reducible apply w_f2) | (with_reducible apply w_isi) | (with_reducible apply w_ix) | (with_reducible apply w_slAll) | (with_reducible apply w_slL) | (with_reducible apply w_slU) | (with_reducible apply w_slLU) | (with_reducible apply w_pop0) | (with_reducible apply w_meth1) | (with_reducible apply w_lcA) | (with_reducible apply w_lsR1) | (with_reducible apply w_lsR2) | (with_reducible apply w_lsZ) | (with_reducible apply w_srtSet) | (with_reducible apply i_seqW) | (with_reducible apply i_rng1W) | (with_reducible apply i_rng2W) | (with_reducible apply i_enumW) | (with_reducible apply i_zipW) | (with_reducible apply s_exprW) | (with_reducible apply s_retW) | (with_reducible apply s_retNW) | (with_reducible apply s_asgW) | (with_reducible apply s_asgT) | (with_reducible apply s_parW) | (with_reducible apply s_iteW) | (with_reducible apply ss_nilW) | (with_reducible apply ss_consW) | (with_reducible apply w_call) | (with_reducible apply WL.v) | (with_reducible apply WL.l) | ((with_reducible apply exW); (with_reducible exact ne_b _ _)) | ((with_reducible apply exW); first | (with_reducible exact eq_i) | (with_reducible exact eq_I) | (with_reducible exact ne_I) | (with_reducible exact ne_i) | (with_reducible exact len_I) | (with_reducible exact sl_last) | (with_reducible exact sl_take (by omega)) | (with_reducible exact sl_drop (by omega)) | (with_reducible exact mod_I (by omega)) | (with_reducible exact div_I (by omega) (by omega)) | (with_reducible exact cat_I (by omega))) | ((with_reducible apply fewW); (focus ((show _ ≤ 16777216); simp; done))) | ((with_reducible apply exW2); rfl) | ((with_reducible apply exW); rfl) | (exfalso; revert hk; decide) | (exfalso; revert hk; simp; done) | intro hk)
    all_goals first
      | (exfalso; simp at hk; done)
      | skip
    refine ⟨.tp ts, .tp ts, rfl, rfl, rfl, ts, fun t => .tup [t, t], fun _ => some (.bl true), ?_, by show ts.length < 100000; omega, by show 100000 ≤ 16777216; omega, fun t ht => ⟨_, rfl, c_nilW ⟨fun _ => ?_, fun z => by cases z⟩⟩, ?_⟩
    · rw [← zipT_same]
      exact fix_zip
    · repeat' (first | ((with_reducible apply w_slot); rfl) | (with_reducible apply w_non) | (with_reducible apply w_bl) | (with_reducible apply w_int) | (with_reducible apply w_str) | (with_reducible apply w_tup) | (with_reducible apply w_lst) | (with_reducible apply w_nil) | (with_reducible apply w_cons) | (with_reducible apply w_star) | (with_reducible apply w_bin) | (with_reducible apply w_cmp) | (with_reducible apply w_chain) | (with_reducible apply w_isN) | (with_reducible apply w_notN) | (with_reducible apply w_andW) | (with_reducible apply w_orW) | (with_reducible apply w_not) | (with_reducible apply w_neg) | (with_reducible apply w_ite) | (with_reducible apply w_f1) | (with_reducible apply w_f2) | (with_reducible apply w_isi) | (with_reducible apply w_ix) | (with_reducible apply w_slAll) | (with_reducible apply w_slL) | (with_reducible apply w_slU) | (with_reducible apply w_slLU) | (with_reducible apply w_pop0) | (with_reducible apply w_meth1) | (with_reducible apply w_lcA) | (with_reducible apply w_lsR1) | (with_reducible apply w_lsR2) | (with_reducible apply w_lsZ) | (with_reducible apply w_srtSet) | (with_reducible apply i_seqW) | (with_reducible apply i_rng1W) | (with_reducible apply i_rng2W) | (with_reducible apply i_enumW) | (with_reducible apply i_zipW) | (with_reducible apply s_exprW) | (with_reducible apply s_retW) | (with_reducible apply s_retNW) | (with_reducible apply s_asgW) | (with_reducible apply s_asgT) | (with_reducible apply s_parW) | (with_reducible apply s_iteW) | (with_reducible apply ss_nilW) | (with_reducible apply ss_consW) | (with_reducible apply w_call) | (with_reducible apply WL.v) | (with_reducible apply WL.l) | ((with_reducible apply WE.cl); (exact e_lsame d t (sms_mem hi ht) (by have := deps_mem ht; omega) (by have := wids_mem ht; omega) k _)) | ((with_reducible apply exW); first | (with_reducible exact eq_i) | (with_reducible exact eq_I) | (with_reducible exact ne_I) | (with_reducible exact ne_i) | (with_reducible exact len_I) | (with_reducible exact sl_last) | (with_reducible exact sl_take (by omega)) | (with_reducible exact sl_drop (by omega)) | (with_reducible exact mod_I (by omega)) | (with_reducible exact div_I (by omega) (by omega)) | (with_reducible exact cat_I (by omega))) | ((with_reducible apply fewW); (focus ((show _ ≤ 16777216); simp; done))) | ((with_reducible apply exW2); rfl) | ((with_reducible apply exW); rfl) | (exfalso; revert hk; decide) | (exfalso; revert hk; simp; done) | intro hk)
      all_goals exact ⟨rfl, rfl⟩
    · refine exW (allT2 ts fun _ => true) ?_
      show T.bl (ts.all fun _ => true) = T.bl true
      rw [List.all_eq_true.mpr fun _ _ => rfl]
  | d + 1, .non, _, _, _, k, h => by
    refine call_w (k := k + d) lk__law_same rfl rfl rfl (fun n => ?_) h
    dsimp only [d__law_same, List.map_cons, List.map_nil, List.cons_append, List.nil_append, List.append_nil, Nat.reduceSub, Nat.sub_self, List.replicate]
    have en : ∀ h, opC .eq h (.v .non) (.v .non) = some true := fun h => rfl
    repeat' (first | ((with_reducible apply w_slot); rfl) | (with_reducible apply w_non) | (with_reducible apply w_bl) | (with_reducible apply w_int) | (with_reducible apply w_str) | (with_reducible apply w_tup) | (with_reducible apply w_lst) | (with_reducible apply w_nil) | (with_reducible apply w_cons) | (with_reducible apply w_star) | (with_reducible apply w_bin) | (with_reducible apply w_cmp) | (with_reducible apply w_chain) | (with_reducible apply w_isN) | (with_reducible apply w_notN) | (with_reducible apply w_andW) | (with_reducible apply w_orW) | (with_reducible apply w_not) | (with_reducible apply w_neg) | (with_reducible apply w_ite) | (with_reducible apply w_f1) | (with_reducible apply w_f2) | (with_reducible apply w_isi) | (with_reducible apply w_ix) | (with_reducible apply w_slAll) | (with_reducible apply w_slL) | (with_reducible apply w_slU) | (with_reducible apply w_slLU) | (with_reducible apply w_pop0) | (with_reducible apply w_meth1) | (with_reducible apply w_lcA) | (with_reducible apply w_lsR1) | (with_reducible apply w_lsR2) | (with_reducible apply w_lsZ) | (with_reducible apply w_srtSet) | (with_reducible apply i_seqW) | (with_reducible apply i_rng1W) | (with_reducible apply i_rng2W) | (with_reducible apply i_enumW) | (with_reducible apply i_zipW) | (with_reducible apply s_exprW) | (with_reducible apply s_retW) | (with_reducible apply s_retNW) | (with_reducible apply s_asgW) | (with_reducible apply s_asgT) | (with_reducible apply s_parW) | (with_reducible apply s_iteW) | (with_reducible apply ss_nilW) | (with_reducible apply ss_consW) | (with_reducible apply w_call) | (with_reducible apply WL.v) | (with_reducible apply WL.l) | ((with_reducible apply exW); (with_reducible first | exact en _ | exact eq_b _ _)) | ((with_reducible apply exW); first | (with_reducible exact eq_i) | (with_reducible exact eq_I) | (with_reducible exact ne_I) | (with_reducible exact ne_i) | (with_reducible exact len_I) | (with_reducible exact sl_last) | (with_reducible exact sl_take (by omega)) | (with_reducible exact sl_drop (by omega)) | (with_reducible exact mod_I (by omega)) | (with_reducible exact div_I (by omega) (by omega)) | (with_reducible exact cat_I (by omega))) | ((with_reducible apply fewW); (focus ((show _ ≤ 16777216); simp; done))) | ((with_reducible apply exW2); rfl) | ((with_reducible apply exW); rfl) | (exfalso; revert hk; decide) | (exfalso; revert hk; simp; done) | intro hk)
    all_goals first
      | rfl
      | (exfalso; revert hk; decide)
      | (exfalso; simp_all [isNon]; done)
  | _ + 1, .str _, h, _, _, _, _ => by cases h
  | _ + 1, .fl _, h, _, _, _, _ => by cases h
  | _ + 1, .ref _, h, _, _, _, _ => by cases h
  | _ + 1, .fn _, h, _, _, _, _ => by cases h
  | _ + 1, .ty _, h, _, _, _, _ => by cases h
theorem fix_zip_lv : ∀ {xs ys : List T} {i j : Nat} {h : Hd}, h.get i = some (.lst xs) → h.get j = some (.lst ys) → (ItV.zip (.lv i) (.lv j)).fix h (zipT xs ys) := fun {xs ys i j h} hi hj n => by
  show (match (match h.get i with | some o => some o.items[n]? | none => none : Option (Option T)), (match h.get j with | some o => some o.items[n]? | none => none : Option (Option T)) with
    | some (some x), some (some y) => some (some (T.tup [x, y]))
    | some _, some _ => some none
    | _, _ => none) = some (zipT xs ys)[n]?
  rw [hi, hj]
  exact fix_zip (h := h) n
/-- two lists of the same things -/
theorem e_lsamer (d k : Nat) (ts : List T) (hi : sms ts = true) (hd : T.deps ts ≤ d) (hw : max ts.length (wids ts) ≤ 5000) (i j : Nat) (h : Hd) (gi : h.get i = some (.lst ts)) (gj : h.get j = some (.lst ts)) : cl (k + d + 1) "_law_same" [.ref i, .ref j] h = .ok (.bl true) h := by
  refine call_h lk__law_same rfl rfl h ?_
  dsimp only [d__law_same, List.map_cons, List.map_nil, List.cons_append, List.nil_append, List.append_nil, Nat.reduceSub, Nat.sub_self, List.replicate]
  have ty : ∀ (m : Nat) (tys : List String), h.get m = some (.lst ts) → opIsi h (.v (.ref m)) tys = some (tys.any fun b => isTy "list" b) := fun m tys e => by
    show ((match h.get m with | some _ => some "list" | none => none : Option String).map fun a => tys.any fun b => isTy a b) = _
    rw [e] <;> rfl
  repeat' (first | ((with_reducible apply w_slot); rfl) | (with_reducible apply w_non) | (with_reducible apply w_bl) | (with_reducible apply w_int) | (with_reducible apply w_str) | (with_reducible apply w_tup) | (with_reducible apply w_lst) | (with_reducible apply w_nil) | (with_reducible apply w_cons) | (with_reducible apply w_star) | (with_reducible apply w_bin) | (with_reducible apply w_cmp) | (with_reducible apply w_chain) | (with_reducible apply w_isN) | (with_reducible apply w_notN) | (with_reducible apply w_andW) | (with_reducible apply w_orW) | (with_reducible apply w_not) | (with_reducible apply w_neg) | (with_reducible apply w_ite) | (with_reducible apply w_f1) | (with_reducible apply w_f2) | (with_reducible apply w_isi) | (with_reducible apply w_ix) | (with_reducible apply w_slAll) | (with_reducible apply w_slL) | (with_reducible apply w_slU) | (with_reducible apply w_slLU) | (with_reducible apply w_pop0) | (with_reducible apply w_meth1) | (with_reducible apply w_lcA) | (with_reducible apply w_lsR1) | (with_reducible apply w_lsR2) | (with_reducible apply w_lsZ) | (with_reducible apply w_srtSet) | (with_reducible apply i_seqW) | (with_reducible apply i_rng1W) | (with_reducible apply i_rng2W) | (with_reducible apply i_enumW) | (with_reducible apply i_zipW) | (with_reducible apply s_exprW) | (with_reducible apply s_retW) | (with_reducible apply s_retNW) | (with_reducible apply s_asgW) | (with_reducible apply s_asgT) | (with_reducible apply s_parW) | (with_reducible apply s_iteW) | (with_reducible apply ss_nilW) | (with_reducible apply ss_consW) | (with_reducible apply w_call) | (with_reducible apply WL.v) | (with_reducible apply WL.l) | ((with_reducible apply exW); (with_reducible first | exact ty _ _ gi | exact ty _ _ gj | exact ne_b _ _ | exact len_ref gi | exact len_ref gj)) | ((with_reducible apply exW); first | (with_reducible exact eq_i) | (with_reducible exact eq_I) | (with_reducible exact ne_I) | (with_reducible exact ne_i) | (with_reducible exact len_I) | (with_reducible exact sl_last) | (with_reducible exact sl_take (by omega)) | (with_reducible exact sl_drop (by omega)) | (with_reducible exact mod_I (by omega)) | (with_reducible exact div_I (by omega) (by omega)) | (with_reducible exact cat_I (by omega))) | ((with_reducible apply fewW); (focus ((show _ ≤ 16777216); simp; done))) | ((with_reducible apply exW2); rfl) | ((with_reducible apply exW); rfl) | (exfalso; revert hk; decide) | (exfalso; revert hk; simp; done) | intro hk)
  all_goals first
    | (exfalso; revert hk; decide)
    | (exfalso; simp at hk; done)
    | skip
  refine ⟨.lv i, .lv j, biOf_ref gi, biOf_ref gj, rfl, ts, fun t => .tup [t, t], fun _ => some (.bl true), ?_, by show ts.length < 100000; omega, by show 100000 ≤ 16777216; omega, fun t ht => ⟨_, rfl, c_nilW ⟨fun _ => ?_, fun z => by cases z⟩⟩, ?_⟩
  · rw [← zipT_same]
    exact fix_zip_lv gi gj
  · repeat' (first | ((with_reducible apply w_slot); rfl) | (with_reducible apply w_non) | (with_reducible apply w_bl) | (with_reducible apply w_int) | (with_reducible apply w_str) | (with_reducible apply w_tup) | (with_reducible apply w_lst) | (with_reducible apply w_nil) | (with_reducible apply w_cons) | (with_reducible apply w_star) | (with_reducible apply w_bin) | (with_reducible apply w_cmp) | (with_reducible apply w_chain) | (with_reducible apply w_isN) | (with_reducible apply w_notN) | (with_reducible apply w_andW) | (with_reducible apply w_orW) | (with_reducible apply w_not) | (with_reducible apply w_neg) | (with_reducible apply w_ite) | (with_reducible apply w_f1) | (with_reducible apply w_f2) | (with_reducible apply w_isi) | (with_reducible apply w_ix) | (with_reducible apply w_slAll) | (with_reducible apply w_slL) | (with_reducible apply w_slU) | (with_reducible apply w_slLU) | (with_reducible apply w_pop0) | (with_reducible apply w_meth1) | (with_reducible apply w_lcA) | (with_reducible apply w_lsR1) | (with_reducible apply w_lsR2) | (with_reducible apply w_lsZ) | (with_reducible apply w_srtSet) | (with_reducible apply i_seqW) | (with_reducible apply i_rng1W) | (with_reducible apply i_rng2W) | (with_reducible apply i_enumW) | (with_reducible apply i_zipW) | (with_reducible apply s_exprW) | (with_reducible apply s_retW) | (with_reducible apply s_retNW) | (with_reducible apply s_asgW) | (with_reducible apply s_asgT) | (with_reducible apply s_parW) | (with_reducible apply s_iteW) | (with_reducible apply ss_nilW) | (with_reducible apply ss_consW) | (with_reducible apply w_call) | (with_reducible apply WL.v) | (with_reducible apply WL.l) | ((with_reducible apply WE.cl); (exact e_lsame d t (sms_mem hi ht) (by have := deps_mem ht; omega) (by have := wids_mem ht; omega) k _)) | ((with_reducible apply exW); first | (with_reducible exact eq_i) | (with_reducible exact eq_I) | (with_reducible exact ne_I) | (with_reducible exact ne_i) | (with_reducible exact len_I) | (with_reducible exact sl_last) | (with_reducible exact sl_take (by omega)) | (with_reducible exact sl_drop (by omega)) | (with_reducible exact mod_I (by omega)) | (with_reducible exact div_I (by omega) (by omega)) | (with_reducible exact cat_I (by omega))) | ((with_reducible apply fewW); (focus ((show _ ≤ 16777216); simp; done))) | ((with_reducible apply exW2); rfl) | ((with_reducible apply exW); rfl) | (exfalso; revert hk; decide) | (exfalso; revert hk; simp; done) | intro hk)
    all_goals exact ⟨rfl, rfl⟩
  · refine exW (allT2 ts fun _ => true) ?_
    refine ⟨?_, rfl⟩
    show T.bl (ts.all fun _ => true) = T.bl true
    rw [List.all_eq_true.mpr fun _ _ => rfl]
end K01
end

section
set_option Elab.async false
set_option linter.all false
set_option maxRecDepth 100000
set_option maxHeartbeats 1000000
namespace K01
open PySem Pv Las
/-! ### things told in lists -/
theorem e_surer (k : Nat) (p : List Int × List Int) (ok : Lok p) (j ja jb : Nat) (h : Hd) (hj : h.get j = some (.lst [.ref ja, .ref jb])) (hja : h.get ja = some (.lst (ti p.1))) (hjb : h.get jb = some (.lst (ti p.2))) : cl (k + 6) "sure_lasso" [.int 3, .ref j] h = .ok (las p) h := by
  have hl1 := ok.l1
  have hl2 := ok.l2
  have ht : cl (k + 2 + 3) "tuple_of" [.ref j] h = .ok (las p) h := e_tupr2 (k + 2) j ja jb p.1 p.2 (by omega) (by omega) h hj hja hjb
  refine call_h lk_sure_lasso rfl rfl h ?_
  dsimp only [d_sure_lasso, List.map_cons, List.map_nil, List.cons_append, List.nil_append, List.append_nil, Nat.reduceSub, Nat.sub_self, List.replicate]
  repeat' (first | ((with_reducible apply w_slot); rfl) | (with_reducible apply w_non) | (with_reducible apply w_bl) | (with_reducible apply w_int) | (with_reducible apply w_str) | (with_reducible apply w_tup) | (with_reducible apply w_lst) | (with_reducible apply w_nil) | (with_reducible apply w_cons) | (with_reducible apply w_star) | (with_reducible apply w_bin) | (with_reducible apply w_cmp) | (with_reducible apply w_chain) | (with_reducible apply w_isN) | (with_reducible apply w_notN) | (with_reducible apply w_andW) | (with_reducible apply w_orW) | (with_reducible apply w_not) | (with_reducible apply w_neg) | (with_reducible apply w_ite) | (with_reducible apply w_f1) | (with_reducible apply w_f2) | (with_reducible apply w_isi) | (with_reducible apply w_ix) | (with_reducible apply w_slAll) | (with_reducible apply w_slL) | (with_reducible apply w_slU) | (with_reducible apply w_slLU) | (with_reducible apply w_pop0) | (with_reducible apply w_meth1) | (with_reducible apply w_lcA) | (with_reducible apply w_lsR1) | (with_reducible apply w_lsR2) | (with_reducible apply w_lsZ) | (with_reducible apply w_srtSet) | (with_reducible apply i_seqW) | (with_reducible apply i_rng1W) | (with_reducible apply i_rng2W) | (with_reducible apply i_enumW) | (with_reducible apply i_zipW) | (with_reducible apply s_exprW) | (with_reducible apply s_retW) | (with_reducible apply s_retNW) | (with_reducible apply s_asgW) | (with_reducible apply s_asgT) | (with_reducible apply s_parW) | (with_reducible apply s_iteW) | (with_reducible apply ss_nilW) | (with_reducible apply ss_consW) | (with_reducible apply w_call) | (with_reducible apply WL.v) | (with_reducible apply WL.l) | ((with_reducible apply WE.cl); (exact e_wide (k + 3) _)) | ((with_reducible apply WE.cl); (exact ht)) | ((with_reducible apply WE.cl); (exact e_lform (k + 1) p ok _)) | ((with_reducible apply exW); first | (with_reducible exact eq_i) | (with_reducible exact eq_I) | (with_reducible exact ne_I) | (with_reducible exact ne_i) | (with_reducible exact len_I) | (with_reducible exact sl_last) | (with_reducible exact sl_take (by omega)) | (with_reducible exact sl_drop (by omega)) | (with_reducible exact mod_I (by omega)) | (with_reducible exact div_I (by omega) (by omega)) | (with_reducible exact cat_I (by omega))) | ((with_reducible apply fewW); (focus ((show _ ≤ 16777216); simp; done))) | ((with_reducible apply exW2); rfl) | ((with_reducible apply exW); rfl) | (exfalso; revert hk; decide) | (exfalso; revert hk; simp; done) | intro hk)
  all_goals exact ⟨rfl, rfl⟩
theorem e_letterAtr (k : Nat) (p : List Int × List Int) (ok : Lok p) (m : Int) (hm : 1 ≤ m) (h1 : m ≤ 1000000000000000000000000000000) (j ja jb : Nat) (h : Hd) (hj : h.get j = some (.lst [.ref ja, .ref jb])) (hja : h.get ja = some (.lst (ti p.1))) (hjb : h.get jb = some (.lst (ti p.2))) : ∃ x, word p.1 p.2 (m - 1).toNat = some x ∧ cl (k + 7) "letter_at" [.ref j, .int m] h = .ok (.int x) h := by
  obtain ⟨x, hx, he⟩ := e_entry (k + 5) p ok m hm h
  refine ⟨x, hx, ?_⟩
  refine call_h lk_letter_at rfl rfl h ?_
  dsimp only [d_letter_at, List.map_cons, List.map_nil, List.cons_append, List.nil_append, List.append_nil, Nat.reduceSub, Nat.sub_self, List.replicate]
  repeat' (first | ((with_reducible apply w_slot); rfl) | (with_reducible apply w_non) | (with_reducible apply w_bl) | (with_reducible apply w_int) | (with_reducible apply w_str) | (with_reducible apply w_tup) | (with_reducible apply w_lst) | (with_reducible apply w_nil) | (with_reducible apply w_cons) | (with_reducible apply w_star) | (with_reducible apply w_bin) | (with_reducible apply w_cmp) | (with_reducible apply w_chain) | (with_reducible apply w_isN) | (with_reducible apply w_notN) | (with_reducible apply w_andW) | (with_reducible apply w_orW) | (with_reducible apply w_not) | (with_reducible apply w_neg) | (with_reducible apply w_ite) | (with_reducible apply w_f1) | (with_reducible apply w_f2) | (with_reducible apply w_isi) | (with_reducible apply w_ix) | (with_reducible apply w_slAll) | (with_reducible apply w_slL) | (with_reducible apply w_slU) | (with_reducible apply w_slLU) | (with_reducible apply w_pop0) | (with_reducible apply w_meth1) | (with_reducible apply w_lcA) | (with_reducible apply w_lsR1) | (with_reducible apply w_lsR2) | (with_reducible apply w_lsZ) | (with_reducible apply w_srtSet) | (with_reducible apply i_seqW) | (with_reducible apply i_rng1W) | (with_reducible apply i_rng2W) | (with_reducible apply i_enumW) | (with_reducible apply i_zipW) | (with_reducible apply s_exprW) | (with_reducible apply s_retW) | (with_reducible apply s_retNW) | (with_reducible apply s_asgW) | (with_reducible apply s_asgT) | (with_reducible apply s_parW) | (with_reducible apply s_iteW) | (with_reducible apply ss_nilW) | (with_reducible apply ss_consW) | (with_reducible apply w_call) | (with_reducible apply WL.v) | (with_reducible apply WL.l) | (with_reducible refine w_glob gl_MOST_WIDE ?_) | ((with_reducible apply WE.cl); (exact e_surer k p ok j ja jb h hj hja hjb)) | ((with_reducible apply WE.cl); (exact e_spot (k + 3) m hm h1 _)) | ((with_reducible apply WE.cl); (exact he)) | ((with_reducible apply exW); first | (with_reducible exact eq_i) | (with_reducible exact eq_I) | (with_reducible exact ne_I) | (with_reducible exact ne_i) | (with_reducible exact len_I) | (with_reducible exact sl_last) | (with_reducible exact sl_take (by omega)) | (with_reducible exact sl_drop (by omega)) | (with_reducible exact mod_I (by omega)) | (with_reducible exact div_I (by omega) (by omega)) | (with_reducible exact cat_I (by omega))) | ((with_reducible apply fewW); (focus ((show _ ≤ 16777216); simp; done))) | ((with_reducible apply exW2); rfl) | ((with_reducible apply exW); rfl) | (exfalso; revert hk; decide) | (exfalso; revert hk; simp; done) | intro hk)
  all_goals exact ⟨rfl, rfl⟩
theorem e_sureLr (k : Nat) (s : List Int) (ok : Lt s) (j : Nat) (h : Hd) (hj : h.get j = some (.lst (ti s))) : cl (k + 5) "sure_letters" [.ref j] h = .ok (tI s) h := by
  have hl := ok.ln
  refine call_h lk_sure_letters rfl rfl h ?_
  dsimp only [d_sure_letters, List.map_cons, List.map_nil, List.cons_append, List.nil_append, List.append_nil, Nat.reduceSub, Nat.sub_self, List.replicate]
  repeat' (first | ((with_reducible apply w_slot); rfl) | (with_reducible apply w_non) | (with_reducible apply w_bl) | (with_reducible apply w_int) | (with_reducible apply w_str) | (with_reducible apply w_tup) | (with_reducible apply w_lst) | (with_reducible apply w_nil) | (with_reducible apply w_cons) | (with_reducible apply w_star) | (with_reducible apply w_bin) | (with_reducible apply w_cmp) | (with_reducible apply w_chain) | (with_reducible apply w_isN) | (with_reducible apply w_notN) | (with_reducible apply w_andW) | (with_reducible apply w_orW) | (with_reducible apply w_not) | (with_reducible apply w_neg) | (with_reducible apply w_ite) | (with_reducible apply w_f1) | (with_reducible apply w_f2) | (with_reducible apply w_isi) | (with_reducible apply w_ix) | (with_reducible apply w_slAll) | (with_reducible apply w_slL) | (with_reducible apply w_slU) | (with_reducible apply w_slLU) | (with_reducible apply w_pop0) | (with_reducible apply w_meth1) | (with_reducible apply w_lcA) | (with_reducible apply w_lsR1) | (with_reducible apply w_lsR2) | (with_reducible apply w_lsZ) | (with_reducible apply w_srtSet) | (with_reducible apply i_seqW) | (with_reducible apply i_rng1W) | (with_reducible apply i_rng2W) | (with_reducible apply i_enumW) | (with_reducible apply i_zipW) | (with_reducible apply s_exprW) | (with_reducible apply s_retW) | (with_reducible apply s_retNW) | (with_reducible apply s_asgW) | (with_reducible apply s_asgT) | (with_reducible apply s_parW) | (with_reducible apply s_iteW) | (with_reducible apply ss_nilW) | (with_reducible apply ss_consW) | (with_reducible apply w_call) | (with_reducible apply WL.v) | (with_reducible apply WL.l) | (with_reducible refine w_glob gl_MOST_WIDE ?_) | ((with_reducible apply WE.cl); (exact e_tupr1 (k + 2) j s (by omega) h hj)) | ((with_reducible apply WE.cl); (exact e_letters k s ok _)) | ((with_reducible apply exW); first | (with_reducible exact eq_i) | (with_reducible exact eq_I) | (with_reducible exact ne_I) | (with_reducible exact ne_i) | (with_reducible exact len_I) | (with_reducible exact sl_last) | (with_reducible exact sl_take (by omega)) | (with_reducible exact sl_drop (by omega)) | (with_reducible exact mod_I (by omega)) | (with_reducible exact div_I (by omega) (by omega)) | (with_reducible exact cat_I (by omega))) | ((with_reducible apply fewW); (focus ((show _ ≤ 16777216); simp; done))) | ((with_reducible apply exW2); rfl) | ((with_reducible apply exW); rfl) | (exfalso; revert hk; decide) | (exfalso; revert hk; simp; done) | intro hk)
  all_goals exact ⟨rfl, rfl⟩
theorem e_oftenr (k : Nat) (p : List Int × List Int) (ok : Lok p) (s : List Int) (ls : Lt s) (m : Int) (h0 : 0 ≤ m) (h1 : m ≤ 1000000000000000000000000000000) (j : Nat) (h : Hd) (hj : h.get j = some (.lst (ti s))) : cl (k + 7) "how_often_to" [las p, .ref j, .int m] h = .ok (.int (often p s m)) h :=
  call_h lk_how_often_to (by show ((las p).pure && false) = false; exact Bool.and_false _) rfl h (e_oftenW k p ok s ls.ln m h0 h1 (.ref j) h (e_sureLr (k + 1) s ls j h hj))
/-! the next one -/
def lat (p : List Int × List Int) (m : Int) (n : Nat) : Int := (word p.1 p.2 (m + n).toNat).getD 0
theorem e_next (k : Nat) (p : List Int × List Int) (ok : Lok p) (s : List Int) (ls : Lt s) (m : Int) (h0 : 9223372036854775808 ≤ m) (h1 : m ≤ 1000000000000000000000000000000) (r : T) (hr : r.pure = true)
    (hd : (r = .non ∧ ∀ n, n < p.1.length + p.2.length → lat p m n ∉ s) ∨ ∃ n : Nat, n < p.1.length + p.2.length ∧ r = .int (m + 1 + n) ∧ lat p m n ∈ s ∧ ∀ j, j < n → lat p m j ∉ s) (h : Hd) : cl (k + 7) "next_with" [las p, tI s, .int m] h = .ok r h := by
  have hl1 := ok.l1
  have hl2 := ok.l2
  refine call_w lk_next_with pur_lIi hr rfl (fun n => ?_) h
  dsimp only [d_next_with, List.map_cons, List.map_nil, List.cons_append, List.nil_append, List.append_nil, Nat.reduceSub, Nat.sub_self, List.replicate]
  obtain ⟨N, eN⟩ : ∃ N : Int, N = m + (p.1.length : Nat) + (p.2.length : Nat) + 1 := ⟨_, rfl⟩
  repeat' (first | ((with_reducible apply w_slot); rfl) | (with_reducible apply w_non) | (with_reducible apply w_bl) | (with_reducible apply w_int) | (with_reducible apply w_str) | (with_reducible apply w_tup) | (with_reducible apply w_lst) | (with_reducible apply w_nil) | (with_reducible apply w_cons) | (with_reducible apply w_star) | (with_reducible apply w_bin) | (with_reducible apply w_cmp) | (with_reducible apply w_chain) | (with_reducible apply w_isN) | (with_reducible apply w_notN) | (with_reducible apply w_andW) | (with_reducible apply w_orW) | (with_reducible apply w_not) | (with_reducible apply w_neg) | (with_reducible apply w_ite) | (with_reducible apply w_f1) | (with_reducible apply w_f2) | (with_reducible apply w_isi) | (with_reducible apply w_ix) | (with_reducible apply w_slAll) | (with_reducible apply w_slL) | (with_reducible apply w_slU) | (with_reducible apply w_slLU) | (with_reducible apply w_pop0) | (with_reducible apply w_meth1) | (with_reducible apply w_lcA) | (with_reducible apply w_lsR1) | (with_reducible apply w_lsR2) | (with_reducible apply w_lsZ) | (with_reducible apply w_srtSet) | (with_reducible apply i_seqW) | (with_reducible apply i_rng1W) | (with_reducible apply i_rng2W) | (with_reducible apply i_enumW) | (with_reducible apply i_zipW) | (with_reducible apply s_exprW) | (with_reducible apply s_retW) | (with_reducible apply s_retNW) | (with_reducible apply s_asgW) | (with_reducible apply s_asgT) | (with_reducible apply s_parW) | (with_reducible apply s_iteW) | (with_reducible apply ss_nilW) | (with_reducible apply ss_consW) | (with_reducible apply w_call) | (with_reducible apply WL.v) | (with_reducible apply WL.l) | (with_reducible first | refine w_glob gl_MOST_WIDE ?_ | refine w_glob gl_MOST_PLACE ?_) | ((with_reducible apply WE.cl); (exact e_sure k p ok _)) | ((with_reducible apply WE.cl); (exact e_sureL (k + 1) s ls _)) | ((with_reducible apply WE.cl); (exact e_many (k + 4) m _ (by omega) h1 _)) | ((with_reducible apply exW); first | (with_reducible exact eq_i) | (with_reducible exact eq_I) | (with_reducible exact ne_I) | (with_reducible exact ne_i) | (with_reducible exact len_I) | (with_reducible exact sl_last) | (with_reducible exact sl_take (by omega)) | (with_reducible exact sl_drop (by omega)) | (with_reducible exact mod_I (by omega)) | (with_reducible exact div_I (by omega) (by omega)) | (with_reducible exact cat_I (by omega))) | ((with_reducible apply fewW); (focus ((show _ ≤ 16777216); simp; done))) | ((with_reducible apply exW2); rfl) | ((with_reducible apply exW); rfl) | (exfalso; revert hk; decide) | (exfalso; revert hk; simp; done) | intro hk)
  refine s_frW (I := fun v c ρ h' => v = .rng (m + 1) (p.1.length + p.2.length) ∧ (∃ o, ρ = [some (las p), some (tI s), some (.int m), o, some (las p), some (tI s)]) ∧ ∀ j, j < c → lat p m j ∉ s) (M := fun _ => p.1.length + p.2.length) ?_ ?_
  · show WE (evI (Pk _) _ _ _) _
    with_reducible apply i_rng2L
    repeat' (first | ((with_reducible apply w_slot); rfl) | (with_reducible apply w_non) | (with_reducible apply w_bl) | (with_reducible apply w_int) | (with_reducible apply w_str) | (with_reducible apply w_tup) | (with_reducible apply w_lst) | (with_reducible apply w_nil) | (with_reducible apply w_cons) | (with_reducible apply w_star) | (with_reducible apply w_bin) | (with_reducible apply w_cmp) | (with_reducible apply w_chain) | (with_reducible apply w_isN) | (with_reducible apply w_notN) | (with_reducible apply w_andW) | (with_reducible apply w_orW) | (with_reducible apply w_not) | (with_reducible apply w_neg) | (with_reducible apply w_ite) | (with_reducible apply w_f1) | (with_reducible apply w_f2) | (with_reducible apply w_isi) | (with_reducible apply w_ix) | (with_reducible apply w_slAll) | (with_reducible apply w_slL) | (with_reducible apply w_slU) | (with_reducible apply w_slLU) | (with_reducible apply w_pop0) | (with_reducible apply w_meth1) | (with_reducible apply w_lcA) | (with_reducible apply w_lsR1) | (with_reducible apply w_lsR2) | (with_reducible apply w_lsZ) | (with_reducible apply w_srtSet) | (with_reducible apply i_seqW) | (with_reducible apply i_rng1W) | (with_reducible apply i_rng2W) | (with_reducible apply i_enumW) | (with_reducible apply i_zipW) | (with_reducible apply s_exprW) | (with_reducible apply s_retW) | (with_reducible apply s_retNW) | (with_reducible apply s_asgW) | (with_reducible apply s_asgT) | (with_reducible apply s_parW) | (with_reducible apply s_iteW) | (with_reducible apply ss_nilW) | (with_reducible apply ss_consW) | (with_reducible apply w_call) | (with_reducible apply WL.v) | (with_reducible apply WL.l) | ((with_reducible apply exW); first | (with_reducible exact eq_i) | (with_reducible exact eq_I) | (with_reducible exact ne_I) | (with_reducible exact ne_i) | (with_reducible exact len_I) | (with_reducible exact sl_last) | (with_reducible exact sl_take (by omega)) | (with_reducible exact sl_drop (by omega)) | (with_reducible exact mod_I (by omega)) | (with_reducible exact div_I (by omega) (by omega)) | (with_reducible exact cat_I (by omega))) | ((with_reducible apply fewW); (focus ((show _ ≤ 16777216); simp; done))) | ((with_reducible apply exW2); rfl) | ((with_reducible apply exW); rfl) | (exfalso; revert hk; decide) | (exfalso; revert hk; simp; done) | intro hk)
    refine ⟨m + 1, m + (p.1.length : Nat) + (p.2.length : Nat) + 1, rfl, by omega, ?_, ?_, ⟨_, rfl⟩, fun j hj => by omega⟩
    · show p.1.length + p.2.length < 100000
      omega
    · rw [show (m + (p.1.length : Nat) + (p.2.length : Nat) + 1 - (m + 1)).toNat = p.1.length + p.2.length by omega]
  · rintro v c ρ h' hc ⟨rfl, ⟨o, rfl⟩, hno⟩
    have hc : c ≤ p.1.length + p.2.length := hc
    by_cases hlt : c < p.1.length + p.2.length
    · obtain ⟨x, hx⟩ : ∃ x : Int, x = m + 1 + (c : Nat) := ⟨_, rfl⟩
      refine .inr ⟨hlt, .int x, _, by show (some (if c < p.1.length + p.2.length then _ else _)) = _; rw [if_pos hlt, hx], rfl, ?_⟩
      obtain ⟨y, hy, ey⟩ := e_entry (k + 5) p ok x (by omega) h'
      have hyl : lat p m c = y := by
        unfold lat
        rw [show (m + (c : Int)).toNat = (x - 1).toNat by omega, hy] <;> rfl
      repeat' (first | ((with_reducible apply w_slot); rfl) | (with_reducible apply w_non) | (with_reducible apply w_bl) | (with_reducible apply w_int) | (with_reducible apply w_str) | (with_reducible apply w_tup) | (with_reducible apply w_lst) | (with_reducible apply w_nil) | (with_reducible apply w_cons) | (with_reducible apply w_star) | (with_reducible apply w_bin) | (with_reducible apply w_cmp) | (with_reducible apply w_chain) | (with_reducible apply w_isN) | (with_reducible apply w_notN) | (with_reducible apply w_andW) | (with_reducible apply w_orW) | (with_reducible apply w_not) | (with_reducible apply w_neg) | (with_reducible apply w_ite) | (with_reducible apply w_f1) | (with_reducible apply w_f2) | (with_reducible apply w_isi) | (with_reducible apply w_ix) | (with_reducible apply w_slAll) | (with_reducible apply w_slL) | (with_reducible apply w_slU) | (with_reducible apply w_slLU) | (with_reducible apply w_pop0) | (with_reducible apply w_meth1) | (with_reducible apply w_lcA) | (with_reducible apply w_lsR1) | (with_reducible apply w_lsR2) | (with_reducible apply w_lsZ) | (with_reducible apply w_srtSet) | (with_reducible apply i_seqW) | (with_reducible apply i_rng1W) | (with_reducible apply i_rng2W) | (with_reducible apply i_enumW) | (with_reducible apply i_zipW) | (with_reducible apply s_exprW) | (with_reducible apply s_retW) | (with_reducible apply s_retNW) | (with_reducible apply s_asgW) | (with_reducible apply s_asgT) | (with_reducible apply s_parW) | (with_reducible apply s_iteW) | (with_reducible apply ss_nilW) | (with_reducible apply ss_consW) | (with_reducible apply w_call) | (with_reducible apply WL.v) | (with_reducible apply WL.l) | ((with_reducible apply WE.cl); (exact ey)) | ((with_reducible apply exW); (with_reducible exact in_I rfl)) | ((with_reducible apply exW); first | (with_reducible exact eq_i) | (with_reducible exact eq_I) | (with_reducible exact ne_I) | (with_reducible exact ne_i) | (with_reducible exact len_I) | (with_reducible exact sl_last) | (with_reducible exact sl_take (by omega)) | (with_reducible exact sl_drop (by omega)) | (with_reducible exact mod_I (by omega)) | (with_reducible exact div_I (by omega) (by omega)) | (with_reducible exact cat_I (by omega))) | ((with_reducible apply fewW); (focus ((show _ ≤ 16777216); simp; done))) | ((with_reducible apply exW2); rfl) | ((with_reducible apply exW); rfl) | (exfalso; revert hk; decide) | (exfalso; revert hk; simp; done) | intro hk)
      · have hin : y ∈ s := of_decide_eq_true hk
        show T.int x = r
        rcases hd with ⟨_, hall⟩ | ⟨q, hq, hr, hd1, hd2⟩
        · exact absurd (by rw [hyl]; exact hin) (hall c hlt)
        · have : q = c := by
            rcases Nat.lt_trichotomy q c with z | z | z
            · exact absurd hd1 (hno q z)
            · exact z
            · exact absurd (by rw [hyl]; exact hin) (hd2 c z)
          rw [hr, hx, this]
      · have hin : y ∉ s := of_decide_eq_false hk
        refine ⟨rfl, ⟨_, rfl⟩, fun j hj => ?_⟩
        by_cases z : j < c
        · exact hno j z
        · have : j = c := by omega
          rw [this, hyl]
          exact hin
    · refine .inl ⟨by show (some (if c < p.1.length + p.2.length then _ else _)) = _; rw [if_neg hlt], ?_⟩
      repeat' (first | ((with_reducible apply w_slot); rfl) | (with_reducible apply w_non) | (with_reducible apply w_bl) | (with_reducible apply w_int) | (with_reducible apply w_str) | (with_reducible apply w_tup) | (with_reducible apply w_lst) | (with_reducible apply w_nil) | (with_reducible apply w_cons) | (with_reducible apply w_star) | (with_reducible apply w_bin) | (with_reducible apply w_cmp) | (with_reducible apply w_chain) | (with_reducible apply w_isN) | (with_reducible apply w_notN) | (with_reducible apply w_andW) | (with_reducible apply w_orW) | (with_reducible apply w_not) | (with_reducible apply w_neg) | (with_reducible apply w_ite) | (with_reducible apply w_f1) | (with_reducible apply w_f2) | (with_reducible apply w_isi) | (with_reducible apply w_ix) | (with_reducible apply w_slAll) | (with_reducible apply w_slL) | (with_reducible apply w_slU) | (with_reducible apply w_slLU) | (with_reducible apply w_pop0) | (with_reducible apply w_meth1) | (with_reducible apply w_lcA) | (with_reducible apply w_lsR1) | (with_reducible apply w_lsR2) | (with_reducible apply w_lsZ) | (with_reducible apply w_srtSet) | (with_reducible apply i_seqW) | (with_reducible apply i_rng1W) | (with_reducible apply i_rng2W) | (with_reducible apply i_enumW) | (with_reducible apply i_zipW) | (with_reducible apply s_exprW) | (with_reducible apply s_retW) | (with_reducible apply s_retNW) | (with_reducible apply s_asgW) | (with_reducible apply s_asgT) | (with_reducible apply s_parW) | (with_reducible apply s_iteW) | (with_reducible apply ss_nilW) | (with_reducible apply ss_consW) | (with_reducible apply w_call) | (with_reducible apply WL.v) | (with_reducible apply WL.l) | ((with_reducible apply exW); first | (with_reducible exact eq_i) | (with_reducible exact eq_I) | (with_reducible exact ne_I) | (with_reducible exact ne_i) | (with_reducible exact len_I) | (with_reducible exact sl_last) | (with_reducible exact sl_take (by omega)) | (with_reducible exact sl_drop (by omega)) | (with_reducible exact mod_I (by omega)) | (with_reducible exact div_I (by omega) (by omega)) | (with_reducible exact cat_I (by omega))) | ((with_reducible apply fewW); (focus ((show _ ≤ 16777216); simp; done))) | ((with_reducible apply exW2); rfl) | ((with_reducible apply exW); rfl) | (exfalso; revert hk; decide) | (exfalso; revert hk; simp; done) | intro hk)
      show T.non = r
      rcases hd with ⟨hr, _⟩ | ⟨q, hq, _, hd1, _⟩
      · rw [hr]
      · exact absurd hd1 (hno q (by omega))
end K01
end

section
set_option Elab.async false
set_option linter.all false
set_option maxRecDepth 100000
set_option maxHeartbeats 1000000
namespace Pv
open PySem
/-- a comprehension by an invariant of the turn, the heap as it may -/
theorem w_lcI {P : Prg} {ρ : En} {h : Hd} {Q : VV → Hd → Prop} {elt : E} {tg : Tg} {it : It} {cs : Es} {vs : List Nat} (q : WE (evI P it ρ h) fun v h => ∃ (M : Nat) (I : Nat → List T → Hd → Prop), M < P.W ∧ P.W ≤ lim ∧ I 0 [] h ∧
    ∀ n acc h, n ≤ M → acc.length ≤ n → I n acc h → (v.at h n = some none ∧ Q (.l acc) h) ∨ (n < M ∧ ∃ t ρ', v.at h n = some (some t) ∧ bindT tg t (wipe ρ vs) = some ρ' ∧ WE (evC P cs ρ' h) fun b h1 => (b = true → WE (evE P elt ρ' h1) fun z h2 => WL z h2 fun y h3 => I (n + 1) (acc ++ [y]) h3) ∧ (b = false → I (n + 1) acc h1))) :
    WE (evE P (.lc elt tg it cs vs) ρ h) Q := by
  refine w_lc (q.imp fun v h ⟨M, I, hM, hW, i0, step⟩ => ?_)
  have key : ∀ (k n : Nat) (acc : List T) (h : Hd), M < k + n → n ≤ M → acc.length ≤ n → I n acc h → WE (turns v (fun t h => match bindT tg t (wipe ρ vs) with
    | some ρ' => ((evC P cs ρ' h).bind fun b h => if b then (resV (evE P elt ρ' h)).bind fun y h => .ok (some y) h else .ok none h).dead
    | none => .fail) k n acc h) fun ts h => Q (.l ts) h := by
    intro k
    induction k with
    | zero => intro n acc h hk hn _ _; omega
    | succ k ih =>
      intro n acc h hk hn ha i
      unfold turns
      rcases step n acc h hn ha i with ⟨e, q⟩ | ⟨hlt, t, ρ', e, e2, w⟩
      · simp only [e]; exact q
      · simp only [e, e2]
        obtain ⟨b, h1, e1, q1, q2⟩ := w.get
        rw [e1]
        cases b with
        | false =>
          have q2 := q2 rfl
          exact ih (n + 1) acc h1 (by omega) hlt (by omega) q2
        | true =>
          obtain ⟨y, h3, e3, q3⟩ := (w_resV (q1 rfl)).get
          show WE (((((resV (evE P elt ρ' h1)).bind fun y h => Res.ok (some y) h).dead).bind fun o h' => match o with
            | some y => if acc.length < lim then turns v _ k (n + 1) (acc ++ [y]) h' else .fail
            | none => turns v _ k (n + 1) acc h')) _
          rw [e3]
          show WE (if acc.length < lim then turns v _ k (n + 1) (acc ++ [y]) h3 else .fail) _
          rw [if_pos (by omega)]
          exact ih (n + 1) (acc ++ [y]) h3 (by omega) hlt (by rw [List.length_append, List.length_singleton]; omega) q3
  exact key P.W 0 [] h (by omega) (Nat.zero_le _) (Nat.zero_le _) i0
end Pv
namespace K01
open PySem Pv Las
theorem e_row (k i n : Nat) (w m : Int) (h : Hd) (hn : n < 700000) (bx : Box i n h) (w1 : 1 ≤ w) (w2 : w ≤ 3) (m0 : 0 ≤ m) (m1 : m ≤ 20) : WE (cl (k + 2) "_law_row" [.ref i, .int w, .int m] h) fun t h' => ∃ l, t = tI l ∧ l.length = m.toNat ∧ (∀ x ∈ l, 1 ≤ x ∧ x ≤ w) ∧ Box i (n + 20) h' ∧ Kp i h h' := by
  refine call_wr lk__law_row rfl rfl ?_
  dsimp only [d__law_row, List.map_cons, List.map_nil, List.cons_append, List.nil_append, List.append_nil, Nat.reduceSub, Nat.sub_self, List.replicate]
  with_reducible apply ss_consW
  with_reducible apply s_retW
  with_reducible apply w_f1
  with_reducible apply w_lcI
  repeat' (first | ((with_reducible apply w_slot); rfl) | (with_reducible apply w_non) | (with_reducible apply w_bl) | (with_reducible apply w_int) | (with_reducible apply w_str) | (with_reducible apply w_tup) | (with_reducible apply w_lst) | (with_reducible apply w_nil) | (with_reducible apply w_cons) | (with_reducible apply w_star) | (with_reducible apply w_bin) | (with_reducible apply w_cmp) | (with_reducible apply w_chain) | (with_reducible apply w_isN) | (with_reducible apply w_notN) | (with_reducible apply w_andW) | (with_reducible apply w_orW) | (with_reducible apply w_not) | (with_reducible apply w_neg) | (with_reducible apply w_ite) | (with_reducible apply w_f1) | (with_reducible apply w_f2) | (with_reducible apply w_isi) | (with_reducible apply w_ix) | (with_reducible apply w_slAll) | (with_reducible apply w_slL) | (with_reducible apply w_slU) | (with_reducible apply w_slLU) | (with_reducible apply w_pop0) | (with_reducible apply w_meth1) | (with_reducible apply w_lcA) | (with_reducible apply w_lsR1) | (with_reducible apply w_lsR2) | (with_reducible apply w_lsZ) | (with_reducible apply w_srtSet) | (with_reducible apply i_seqW) | (with_reducible apply i_rng1W) | (with_reducible apply i_rng2W) | (with_reducible apply i_enumW) | (with_reducible apply i_zipW) | (with_reducible apply s_exprW) | (with_reducible apply s_retW) | (with_reducible apply s_retNW) | (with_reducible apply s_asgW) | (with_reducible apply s_asgT) | (with_reducible apply s_parW) | (with_reducible apply s_iteW) | (with_reducible apply ss_nilW) | (with_reducible apply ss_consW) | (with_reducible apply w_call) | (with_reducible apply WL.v) | (with_reducible apply WL.l) | ((with_reducible apply exW); first | (with_reducible exact eq_i) | (with_reducible exact eq_I) | (with_reducible exact ne_I) | (with_reducible exact ne_i) | (with_reducible exact len_I) | (with_reducible exact sl_last) | (with_reducible exact sl_take (by omega)) | (with_reducible exact sl_drop (by omega)) | (with_reducible exact mod_I (by omega)) | (with_reducible exact div_I (by omega) (by omega)) | (with_reducible exact cat_I (by omega))) | ((with_reducible apply fewW); (focus ((show _ ≤ 16777216); simp; done))) | ((with_reducible apply exW2); rfl) | ((with_reducible apply exW); rfl) | (exfalso; revert hk; decide) | (exfalso; revert hk; simp; done) | intro hk)
  have hs : small62 m = true := by
    unfold small62
    simp
    omega
  refine ⟨hs, m.toNat, fun c acc h' => ∃ l : List Int, acc = ti l ∧ l.length = c ∧ (∀ x ∈ l, 1 ≤ x ∧ x ≤ w) ∧ Box i (n + c) h' ∧ Kp i h h', ?_, by show 100000 ≤ 16777216; omega, ⟨[], rfl, rfl, fun x hx => (by cases hx), bx, Kp.rfl'⟩, ?_⟩
  · show m.toNat < 100000
    omega
  · rintro c acc h' hc ha ⟨l, rfl, hl, hgood, bx', kp'⟩
    by_cases hlt : c < m.toNat
    · refine .inr ⟨hlt, .int (0 + (c : Nat)), _, by show (some (if c < m.toNat then _ else _)) = _; rw [if_pos hlt], rfl, c_nilW ⟨fun _ => ?_, fun z => by cases z⟩⟩
      repeat' (first | ((with_reducible apply w_slot); rfl) | (with_reducible apply w_non) | (with_reducible apply w_bl) | (with_reducible apply w_int) | (with_reducible apply w_str) | (with_reducible apply w_tup) | (with_reducible apply w_lst) | (with_reducible apply w_nil) | (with_reducible apply w_cons) | (with_reducible apply w_star) | (with_reducible apply w_bin) | (with_reducible apply w_cmp) | (with_reducible apply w_chain) | (with_reducible apply w_isN) | (with_reducible apply w_notN) | (with_reducible apply w_andW) | (with_reducible apply w_orW) | (with_reducible apply w_not) | (with_reducible apply w_neg) | (with_reducible apply w_ite) | (with_reducible apply w_f1) | (with_reducible apply w_f2) | (with_reducible apply w_isi) | (with_reducible apply w_ix) | (with_reducible apply w_slAll) | (with_reducible apply w_slL) | (with_reducible apply w_slU) | (with_reducible apply w_slLU) | (with_reducible apply w_pop0) | (with_reducible apply w_meth1) | (with_reducible apply w_lcA) | (with_reducible apply w_lsR1) | (with_reducible apply w_lsR2) | (with_reducible apply w_lsZ) | (with_reducible apply w_srtSet) | (with_reducible apply i_seqW) | (with_reducible apply i_rng1W) | (with_reducible apply i_rng2W) | (with_reducible apply i_enumW) | (with_reducible apply i_zipW) | (with_reducible apply s_exprW) | (with_reducible apply s_retW) | (with_reducible apply s_retNW) | (with_reducible apply s_asgW) | (with_reducible apply s_asgT) | (with_reducible apply s_parW) | (with_reducible apply s_iteW) | (with_reducible apply ss_nilW) | (with_reducible apply ss_consW) | (with_reducible apply w_call) | (with_reducible apply WL.v) | (with_reducible apply WL.l) | ((with_reducible apply exW); first | (with_reducible exact eq_i) | (with_reducible exact eq_I) | (with_reducible exact ne_I) | (with_reducible exact ne_i) | (with_reducible exact len_I) | (with_reducible exact sl_last) | (with_reducible exact sl_take (by omega)) | (with_reducible exact sl_drop (by omega)) | (with_reducible exact mod_I (by omega)) | (with_reducible exact div_I (by omega) (by omega)) | (with_reducible exact cat_I (by omega))) | ((with_reducible apply fewW); (focus ((show _ ≤ 16777216); simp; done))) | ((with_reducible apply exW2); rfl) | ((with_reducible apply exW); rfl) | (exfalso; revert hk; decide) | (exfalso; revert hk; simp; done) | intro hk)
      refine WE.imp (e_take k i (n + c) w (by omega) (by omega) (by omega) h' bx') ?_
      rintro _ h1 ⟨d, rfl, d0, d1, bx1, kp1⟩
      repeat' (first | ((with_reducible apply w_slot); rfl) | (with_reducible apply w_non) | (with_reducible apply w_bl) | (with_reducible apply w_int) | (with_reducible apply w_str) | (with_reducible apply w_tup) | (with_reducible apply w_lst) | (with_reducible apply w_nil) | (with_reducible apply w_cons) | (with_reducible apply w_star) | (with_reducible apply w_bin) | (with_reducible apply w_cmp) | (with_reducible apply w_chain) | (with_reducible apply w_isN) | (with_reducible apply w_notN) | (with_reducible apply w_andW) | (with_reducible apply w_orW) | (with_reducible apply w_not) | (with_reducible apply w_neg) | (with_reducible apply w_ite) | (with_reducible apply w_f1) | (with_reducible apply w_f2) | (with_reducible apply w_isi) | (with_reducible apply w_ix) | (with_reducible apply w_slAll) | (with_reducible apply w_slL) | (with_reducible apply w_slU) | (with_reducible apply w_slLU) | (with_reducible apply w_pop0) | (with_reducible apply w_meth1) | (with_reducible apply w_lcA) | (with_reducible apply w_lsR1) | (with_reducible apply w_lsR2) | (with_reducible apply w_lsZ) | (with_reducible apply w_srtSet) | (with_reducible apply i_seqW) | (with_reducible apply i_rng1W) | (with_reducible apply i_rng2W) | (with_reducible apply i_enumW) | (with_reducible apply i_zipW) | (with_reducible apply s_exprW) | (with_reducible apply s_retW) | (with_reducible apply s_retNW) | (with_reducible apply s_asgW) | (with_reducible apply s_asgT) | (with_reducible apply s_parW) | (with_reducible apply s_iteW) | (with_reducible apply ss_nilW) | (with_reducible apply ss_consW) | (with_reducible apply w_call) | (with_reducible apply WL.v) | (with_reducible apply WL.l) | ((with_reducible apply exW); first | (with_reducible exact eq_i) | (with_reducible exact eq_I) | (with_reducible exact ne_I) | (with_reducible exact ne_i) | (with_reducible exact len_I) | (with_reducible exact sl_last) | (with_reducible exact sl_take (by omega)) | (with_reducible exact sl_drop (by omega)) | (with_reducible exact mod_I (by omega)) | (with_reducible exact div_I (by omega) (by omega)) | (with_reducible exact cat_I (by omega))) | ((with_reducible apply fewW); (focus ((show _ ≤ 16777216); simp; done))) | ((with_reducible apply exW2); rfl) | ((with_reducible apply exW); rfl) | (exfalso; revert hk; decide) | (exfalso; revert hk; simp; done) | intro hk)
      refine ⟨l ++ [1 + d], by rw [← ti_append]; rfl, by rw [List.length_append, hl]; rfl, fun x hx => ?_, bx1, kp'.trans kp1⟩
      rcases List.mem_append.mp hx with z | z
      · exact hgood x z
      · rw [List.mem_singleton.mp z]; omega
    · refine .inl ⟨by show (some (if c < m.toNat then _ else _)) = _; rw [if_neg hlt], ?_⟩
      repeat' (first | ((with_reducible apply w_slot); rfl) | (with_reducible apply w_non) | (with_reducible apply w_bl) | (with_reducible apply w_int) | (with_reducible apply w_str) | (with_reducible apply w_tup) | (with_reducible apply w_lst) | (with_reducible apply w_nil) | (with_reducible apply w_cons) | (with_reducible apply w_star) | (with_reducible apply w_bin) | (with_reducible apply w_cmp) | (with_reducible apply w_chain) | (with_reducible apply w_isN) | (with_reducible apply w_notN) | (with_reducible apply w_andW) | (with_reducible apply w_orW) | (with_reducible apply w_not) | (with_reducible apply w_neg) | (with_reducible apply w_ite) | (with_reducible apply w_f1) | (with_reducible apply w_f2) | (with_reducible apply w_isi) | (with_reducible apply w_ix) | (with_reducible apply w_slAll) | (with_reducible apply w_slL) | (with_reducible apply w_slU) | (with_reducible apply w_slLU) | (with_reducible apply w_pop0) | (with_reducible apply w_meth1) | (with_reducible apply w_lcA) | (with_reducible apply w_lsR1) | (with_reducible apply w_lsR2) | (with_reducible apply w_lsZ) | (with_reducible apply w_srtSet) | (with_reducible apply i_seqW) | (with_reducible apply i_rng1W) | (with_reducible apply i_rng2W) | (with_reducible apply i_enumW) | (with_reducible apply i_zipW) | (with_reducible apply s_exprW) | (with_reducible apply s_retW) | (with_reducible apply s_retNW) | (with_reducible apply s_asgW) | (with_reducible apply s_asgT) | (with_reducible apply s_parW) | (with_reducible apply s_iteW) | (with_reducible apply ss_nilW) | (with_reducible apply ss_consW) | (with_reducible apply w_call) | (with_reducible apply WL.v) | (with_reducible apply WL.l) | ((with_reducible apply exW); first | (with_reducible exact eq_i) | (with_reducible exact eq_I) | (with_reducible exact ne_I) | (with_reducible exact ne_i) | (with_reducible exact len_I) | (with_reducible exact sl_last) | (with_reducible exact sl_take (by omega)) | (with_reducible exact sl_drop (by omega)) | (with_reducible exact mod_I (by omega)) | (with_reducible exact div_I (by omega) (by omega)) | (with_reducible exact cat_I (by omega))) | ((with_reducible apply fewW); (focus ((show _ ≤ 16777216); simp; done))) | ((with_reducible apply exW2); rfl) | ((with_reducible apply exW); rfl) | (exfalso; revert hk; decide) | (exfalso; revert hk; simp; done) | intro hk)
      exact ⟨l, rfl, by omega, hgood, bx'.mono (by omega), kp'⟩
theorem e_lasso (k i n : Nat) (h : Hd) (hn : n < 600000) (bx : Box i n h) : WE (cl (k + 3) "_law_lasso" [.ref i, .int 3, .int 6, .int 5] h) fun t h' => ∃ p : List Int × List Int, t = las p ∧ p.1.length ≤ 6 ∧ 1 ≤ p.2.length ∧ p.2.length ≤ 5 ∧ (∀ x ∈ p.1, 1 ≤ x ∧ x ≤ 3) ∧ (∀ x ∈ p.2, 1 ≤ x ∧ x ≤ 3) ∧ Box i (n + 50) h' ∧ Kp i h h' := by
  refine call_wr lk__law_lasso rfl rfl ?_
  dsimp only [d__law_lasso, List.map_cons, List.map_nil, List.cons_append, List.nil_append, List.append_nil, Nat.reduceSub, Nat.sub_self, List.replicate]
  repeat' (first | ((with_reducible apply w_slot); rfl) | (with_reducible apply w_non) | (with_reducible apply w_bl) | (with_reducible apply w_int) | (with_reducible apply w_str) | (with_reducible apply w_tup) | (with_reducible apply w_lst) | (with_reducible apply w_nil) | (with_reducible apply w_cons) | (with_reducible apply w_star) | (with_reducible apply w_bin) | (with_reducible apply w_cmp) | (with_reducible apply w_chain) | (with_reducible apply w_isN) | (with_reducible apply w_notN) | (with_reducible apply w_andW) | (with_reducible apply w_orW) | (with_reducible apply w_not) | (with_reducible apply w_neg) | (with_reducible apply w_ite) | (with_reducible apply w_f1) | (with_reducible apply w_f2) | (with_reducible apply w_isi) | (with_reducible apply w_ix) | (with_reducible apply w_slAll) | (with_reducible apply w_slL) | (with_reducible apply w_slU) | (with_reducible apply w_slLU) | (with_reducible apply w_pop0) | (with_reducible apply w_meth1) | (with_reducible apply w_lcA) | (with_reducible apply w_lsR1) | (with_reducible apply w_lsR2) | (with_reducible apply w_lsZ) | (with_reducible apply w_srtSet) | (with_reducible apply i_seqW) | (with_reducible apply i_rng1W) | (with_reducible apply i_rng2W) | (with_reducible apply i_enumW) | (with_reducible apply i_zipW) | (with_reducible apply s_exprW) | (with_reducible apply s_retW) | (with_reducible apply s_retNW) | (with_reducible apply s_asgW) | (with_reducible apply s_asgT) | (with_reducible apply s_parW) | (with_reducible apply s_iteW) | (with_reducible apply ss_nilW) | (with_reducible apply ss_consW) | (with_reducible apply w_call) | (with_reducible apply WL.v) | (with_reducible apply WL.l) | ((with_reducible apply exW); first | (with_reducible exact eq_i) | (with_reducible exact eq_I) | (with_reducible exact ne_I) | (with_reducible exact ne_i) | (with_reducible exact len_I) | (with_reducible exact sl_last) | (with_reducible exact sl_take (by omega)) | (with_reducible exact sl_drop (by omega)) | (with_reducible exact mod_I (by omega)) | (with_reducible exact div_I (by omega) (by omega)) | (with_reducible exact cat_I (by omega))) | ((with_reducible apply fewW); (focus ((show _ ≤ 16777216); simp; done))) | ((with_reducible apply exW2); rfl) | ((with_reducible apply exW); rfl) | (exfalso; revert hk; decide) | (exfalso; revert hk; simp; done) | intro hk)
  refine WE.imp (e_take (k + 1) i n _ (by omega) (by omega) (by omega) h bx) ?_
  rintro _ h1 ⟨d, rfl, d0, d1, bx1, kp1⟩
  refine WE.imp (e_row k i (n + 1) 3 d h1 (by omega) bx1 (by omega) (by omega) d0 (by omega)) ?_
  rintro _ h2 ⟨a, rfl, ha, hga, bx2, kp2⟩
  repeat' (first | ((with_reducible apply w_slot); rfl) | (with_reducible apply w_non) | (with_reducible apply w_bl) | (with_reducible apply w_int) | (with_reducible apply w_str) | (with_reducible apply w_tup) | (with_reducible apply w_lst) | (with_reducible apply w_nil) | (with_reducible apply w_cons) | (with_reducible apply w_star) | (with_reducible apply w_bin) | (with_reducible apply w_cmp) | (with_reducible apply w_chain) | (with_reducible apply w_isN) | (with_reducible apply w_notN) | (with_reducible apply w_andW) | (with_reducible apply w_orW) | (with_reducible apply w_not) | (with_reducible apply w_neg) | (with_reducible apply w_ite) | (with_reducible apply w_f1) | (with_reducible apply w_f2) | (with_reducible apply w_isi) | (with_reducible apply w_ix) | (with_reducible apply w_slAll) | (with_reducible apply w_slL) | (with_reducible apply w_slU) | (with_reducible apply w_slLU) | (with_reducible apply w_pop0) | (with_reducible apply w_meth1) | (with_reducible apply w_lcA) | (with_reducible apply w_lsR1) | (with_reducible apply w_lsR2) | (with_reducible apply w_lsZ) | (with_reducible apply w_srtSet) | (with_reducible apply i_seqW) | (with_reducible apply i_rng1W) | (with_reducible apply i_rng2W) | (with_reducible apply i_enumW) | (with_reducible apply i_zipW) | (with_reducible apply s_exprW) | (with_reducible apply s_retW) | (with_reducible apply s_retNW) | (with_reducible apply s_asgW) | (with_reducible apply s_asgT) | (with_reducible apply s_parW) | (with_reducible apply s_iteW) | (with_reducible apply ss_nilW) | (with_reducible apply ss_consW) | (with_reducible apply w_call) | (with_reducible apply WL.v) | (with_reducible apply WL.l) | ((with_reducible apply exW); first | (with_reducible exact eq_i) | (with_reducible exact eq_I) | (with_reducible exact ne_I) | (with_reducible exact ne_i) | (with_reducible exact len_I) | (with_reducible exact sl_last) | (with_reducible exact sl_take (by omega)) | (with_reducible exact sl_drop (by omega)) | (with_reducible exact mod_I (by omega)) | (with_reducible exact div_I (by omega) (by omega)) | (with_reducible exact cat_I (by omega))) | ((with_reducible apply fewW); (focus ((show _ ≤ 16777216); simp; done))) | ((with_reducible apply exW2); rfl) | ((with_reducible apply exW); rfl) | (exfalso; revert hk; decide) | (exfalso; revert hk; simp; done) | intro hk)
  refine WE.imp (e_take (k + 1) i (n + 1 + 20) 5 (by omega) (by omega) (by omega) h2 bx2) ?_
  rintro _ h3 ⟨e, rfl, e0, e1, bx3, kp3⟩
  repeat' (first | ((with_reducible apply w_slot); rfl) | (with_reducible apply w_non) | (with_reducible apply w_bl) | (with_reducible apply w_int) | (with_reducible apply w_str) | (with_reducible apply w_tup) | (with_reducible apply w_lst) | (with_reducible apply w_nil) | (with_reducible apply w_cons) | (with_reducible apply w_star) | (with_reducible apply w_bin) | (with_reducible apply w_cmp) | (with_reducible apply w_chain) | (with_reducible apply w_isN) | (with_reducible apply w_notN) | (with_reducible apply w_andW) | (with_reducible apply w_orW) | (with_reducible apply w_not) | (with_reducible apply w_neg) | (with_reducible apply w_ite) | (with_reducible apply w_f1) | (with_reducible apply w_f2) | (with_reducible apply w_isi) | (with_reducible apply w_ix) | (with_reducible apply w_slAll) | (with_reducible apply w_slL) | (with_reducible apply w_slU) | (with_reducible apply w_slLU) | (with_reducible apply w_pop0) | (with_reducible apply w_meth1) | (with_reducible apply w_lcA) | (with_reducible apply w_lsR1) | (with_reducible apply w_lsR2) | (with_reducible apply w_lsZ) | (with_reducible apply w_srtSet) | (with_reducible apply i_seqW) | (with_reducible apply i_rng1W) | (with_reducible apply i_rng2W) | (with_reducible apply i_enumW) | (with_reducible apply i_zipW) | (with_reducible apply s_exprW) | (with_reducible apply s_retW) | (with_reducible apply s_retNW) | (with_reducible apply s_asgW) | (with_reducible apply s_asgT) | (with_reducible apply s_parW) | (with_reducible apply s_iteW) | (with_reducible apply ss_nilW) | (with_reducible apply ss_consW) | (with_reducible apply w_call) | (with_reducible apply WL.v) | (with_reducible apply WL.l) | ((with_reducible apply exW); first | (with_reducible exact eq_i) | (with_reducible exact eq_I) | (with_reducible exact ne_I) | (with_reducible exact ne_i) | (with_reducible exact len_I) | (with_reducible exact sl_last) | (with_reducible exact sl_take (by omega)) | (with_reducible exact sl_drop (by omega)) | (with_reducible exact mod_I (by omega)) | (with_reducible exact div_I (by omega) (by omega)) | (with_reducible exact cat_I (by omega))) | ((with_reducible apply fewW); (focus ((show _ ≤ 16777216); simp; done))) | ((with_reducible apply exW2); rfl) | ((with_reducible apply exW); rfl) | (exfalso; revert hk; decide) | (exfalso; revert hk; simp; done) | intro hk)
  refine WE.imp (e_row k i (n + 1 + 20 + 1) 3 (1 + e) h3 (by omega) bx3 (by omega) (by omega) (by omega) (by omega)) ?_
  rintro _ h4 ⟨b, rfl, hb, hgb, bx4, kp4⟩
  repeat' (first | ((with_reducible apply w_slot); rfl) | (with_reducible apply w_non) | (with_reducible apply w_bl) | (with_reducible apply w_int) | (with_reducible apply w_str) | (with_reducible apply w_tup) | (with_reducible apply w_lst) | (with_reducible apply w_nil) | (with_reducible apply w_cons) | (with_reducible apply w_star) | (with_reducible apply w_bin) | (with_reducible apply w_cmp) | (with_reducible apply w_chain) | (with_reducible apply w_isN) | (with_reducible apply w_notN) | (with_reducible apply w_andW) | (with_reducible apply w_orW) | (with_reducible apply w_not) | (with_reducible apply w_neg) | (with_reducible apply w_ite) | (with_reducible apply w_f1) | (with_reducible apply w_f2) | (with_reducible apply w_isi) | (with_reducible apply w_ix) | (with_reducible apply w_slAll) | (with_reducible apply w_slL) | (with_reducible apply w_slU) | (with_reducible apply w_slLU) | (with_reducible apply w_pop0) | (with_reducible apply w_meth1) | (with_reducible apply w_lcA) | (with_reducible apply w_lsR1) | (with_reducible apply w_lsR2) | (with_reducible apply w_lsZ) | (with_reducible apply w_srtSet) | (with_reducible apply i_seqW) | (with_reducible apply i_rng1W) | (with_reducible apply i_rng2W) | (with_reducible apply i_enumW) | (with_reducible apply i_zipW) | (with_reducible apply s_exprW) | (with_reducible apply s_retW) | (with_reducible apply s_retNW) | (with_reducible apply s_asgW) | (with_reducible apply s_asgT) | (with_reducible apply s_parW) | (with_reducible apply s_iteW) | (with_reducible apply ss_nilW) | (with_reducible apply ss_consW) | (with_reducible apply w_call) | (with_reducible apply WL.v) | (with_reducible apply WL.l) | ((with_reducible apply exW); first | (with_reducible exact eq_i) | (with_reducible exact eq_I) | (with_reducible exact ne_I) | (with_reducible exact ne_i) | (with_reducible exact len_I) | (with_reducible exact sl_last) | (with_reducible exact sl_take (by omega)) | (with_reducible exact sl_drop (by omega)) | (with_reducible exact mod_I (by omega)) | (with_reducible exact div_I (by omega) (by omega)) | (with_reducible exact cat_I (by omega))) | ((with_reducible apply fewW); (focus ((show _ ≤ 16777216); simp; done))) | ((with_reducible apply exW2); rfl) | ((with_reducible apply exW); rfl) | (exfalso; revert hk; decide) | (exfalso; revert hk; simp; done) | intro hk)
  exact ⟨(a, b), rfl, by show a.length ≤ 6; omega, by show 1 ≤ b.length; omega, by show b.length ≤ 5; omega, hga, hgb, bx4.mono (by omega), ((kp1.trans kp2).trans kp3).trans kp4⟩
end K01
end

section
set_option Elab.async false
set_option linter.all false
set_option maxRecDepth 100000
set_option maxHeartbeats 1000000
namespace K01
open PySem Pv Las
def subs : Nat → List (List Int)
  | 0 => [[]]
  | c + 1 => subs c ++ (subs c).map fun r => r ++ [(c : Int) + 1]
theorem subs_len : ∀ c, (subs c).length = 2 ^ c
  | 0 => rfl
  | c + 1 => by
    show (subs c ++ (subs c).map _).length = _
    rw [List.length_append, List.length_map, subs_len c, Nat.pow_succ]
    omega
theorem subs_in : ∀ (c : Nat), ∀ r ∈ subs c, r.length ≤ c
  | 0, r, h => by rw [List.mem_singleton.mp h]; exact Nat.le_refl _
  | c + 1, r, h => by
    rcases List.mem_append.mp h with z | z
    · have := subs_in c r z; omega
    · obtain ⟨q, hq, rfl⟩ := List.mem_map.mp z
      have := subs_in c q hq
      rw [List.length_append, List.length_singleton]
      omega
theorem fm_more (l : List (List Int)) (x : Int) : l.filterMap (fun r => some (tI (r ++ [x]))) = (l.map fun r => r ++ [x]).map tI := by
  rw [filterMap_some, List.map_map] <;> rfl
theorem e_gaps (k : Nat) (j : Nat) (h : Hd) (hj : h.get j = some (.lst (ti [1, 2, 3]))) (hlt : j < h.next) : WE (cl (k + 1) "_law_gap_subsets" [.ref j] h) fun t h' => ∃ m, t = .ref m ∧ h'.get m = some (.lst ((subs 3).map tI)) ∧ m < h'.next ∧ ∀ i, Kp i h h' := by
  refine call_wr lk__law_gap_subsets rfl rfl ?_
  dsimp only [d__law_gap_subsets, List.map_cons, List.map_nil, List.cons_append, List.nil_append, List.append_nil, Nat.reduceSub, Nat.sub_self, List.replicate]
  repeat' (first | ((with_reducible apply w_slot); rfl) | (with_reducible apply w_non) | (with_reducible apply w_bl) | (with_reducible apply w_int) | (with_reducible apply w_str) | (with_reducible apply w_tup) | (with_reducible apply w_lst) | (with_reducible apply w_nil) | (with_reducible apply w_cons) | (with_reducible apply w_star) | (with_reducible apply w_bin) | (with_reducible apply w_cmp) | (with_reducible apply w_chain) | (with_reducible apply w_isN) | (with_reducible apply w_notN) | (with_reducible apply w_andW) | (with_reducible apply w_orW) | (with_reducible apply w_not) | (with_reducible apply w_neg) | (with_reducible apply w_ite) | (with_reducible apply w_f1) | (with_reducible apply w_f2) | (with_reducible apply w_isi) | (with_reducible apply w_ix) | (with_reducible apply w_slAll) | (with_reducible apply w_slL) | (with_reducible apply w_slU) | (with_reducible apply w_slLU) | (with_reducible apply w_pop0) | (with_reducible apply w_meth1) | (with_reducible apply w_lcA) | (with_reducible apply w_lsR1) | (with_reducible apply w_lsR2) | (with_reducible apply w_lsZ) | (with_reducible apply w_srtSet) | (with_reducible apply i_seqW) | (with_reducible apply i_rng1W) | (with_reducible apply i_rng2W) | (with_reducible apply i_enumW) | (with_reducible apply i_zipW) | (with_reducible apply s_exprW) | (with_reducible apply s_retW) | (with_reducible apply s_retNW) | (with_reducible apply s_asgW) | (with_reducible apply s_asgT) | (with_reducible apply s_parW) | (with_reducible apply s_iteW) | (with_reducible apply ss_nilW) | (with_reducible apply ss_consW) | (with_reducible apply w_call) | (with_reducible apply WL.v) | (with_reducible apply WL.l) | ((with_reducible apply exW); first | (with_reducible exact eq_i) | (with_reducible exact eq_I) | (with_reducible exact ne_I) | (with_reducible exact ne_i) | (with_reducible exact len_I) | (with_reducible exact sl_last) | (with_reducible exact sl_take (by omega)) | (with_reducible exact sl_drop (by omega)) | (with_reducible exact mod_I (by omega)) | (with_reducible exact div_I (by omega) (by omega)) | (with_reducible exact cat_I (by omega))) | ((with_reducible apply fewW); (focus ((show _ ≤ 16777216); simp; done))) | ((with_reducible apply exW2); rfl) | ((with_reducible apply exW); rfl) | (exfalso; revert hk; decide) | (exfalso; revert hk; simp; done) | intro hk)
  refine s_frW (I := fun v c ρ h' => v = .one (.lv j) ∧ ∃ (m : Nat) (o p : Option T), ρ = [some (.ref j), some (.ref m), o, p] ∧ h'.get m = some (.lst ((subs c).map tI)) ∧ m < h'.next ∧ h'.get j = some (.lst (ti [1, 2, 3])) ∧ ∀ i, Kp i h h') (M := fun _ => 3) ?_ ?_
  · have hj1 : (h.new (.lst [.tup []])).get j = some (.lst (ti [1, 2, 3])) := by rw [get_new_ne hlt, hj]
    repeat' (first | ((with_reducible apply w_slot); rfl) | (with_reducible apply w_non) | (with_reducible apply w_bl) | (with_reducible apply w_int) | (with_reducible apply w_str) | (with_reducible apply w_tup) | (with_reducible apply w_lst) | (with_reducible apply w_nil) | (with_reducible apply w_cons) | (with_reducible apply w_star) | (with_reducible apply w_bin) | (with_reducible apply w_cmp) | (with_reducible apply w_chain) | (with_reducible apply w_isN) | (with_reducible apply w_notN) | (with_reducible apply w_andW) | (with_reducible apply w_orW) | (with_reducible apply w_not) | (with_reducible apply w_neg) | (with_reducible apply w_ite) | (with_reducible apply w_f1) | (with_reducible apply w_f2) | (with_reducible apply w_isi) | (with_reducible apply w_ix) | (with_reducible apply w_slAll) | (with_reducible apply w_slL) | (with_reducible apply w_slU) | (with_reducible apply w_slLU) | (with_reducible apply w_pop0) | (with_reducible apply w_meth1) | (with_reducible apply w_lcA) | (with_reducible apply w_lsR1) | (with_reducible apply w_lsR2) | (with_reducible apply w_lsZ) | (with_reducible apply w_srtSet) | (with_reducible apply i_seqW) | (with_reducible apply i_rng1W) | (with_reducible apply i_rng2W) | (with_reducible apply i_enumW) | (with_reducible apply i_zipW) | (with_reducible apply s_exprW) | (with_reducible apply s_retW) | (with_reducible apply s_retNW) | (with_reducible apply s_asgW) | (with_reducible apply s_asgT) | (with_reducible apply s_parW) | (with_reducible apply s_iteW) | (with_reducible apply ss_nilW) | (with_reducible apply ss_consW) | (with_reducible apply w_call) | (with_reducible apply WL.v) | (with_reducible apply WL.l) | ((with_reducible apply exW); (with_reducible exact biOf_ref hj1)) | ((with_reducible apply exW); first | (with_reducible exact eq_i) | (with_reducible exact eq_I) | (with_reducible exact ne_I) | (with_reducible exact ne_i) | (with_reducible exact len_I) | (with_reducible exact sl_last) | (with_reducible exact sl_take (by omega)) | (with_reducible exact sl_drop (by omega)) | (with_reducible exact mod_I (by omega)) | (with_reducible exact div_I (by omega) (by omega)) | (with_reducible exact cat_I (by omega))) | ((with_reducible apply fewW); (focus ((show _ ≤ 16777216); simp; done))) | ((with_reducible apply exW2); rfl) | ((with_reducible apply exW); rfl) | (exfalso; revert hk; decide) | (exfalso; revert hk; simp; done) | intro hk)
    exact ⟨by show 3 < 100000; omega, rfl, h.next, none, none, rfl, get_new_same, Nat.lt_succ_self _, hj1, fun i => Kp.new⟩
  · rintro v c ρ h' hc ⟨rfl, m, o, p, rfl, gm, hm, gj, kp⟩
    have hc : c ≤ 3 := hc
    have hat : (ItV.one (.lv j)).at h' c = some (ti [1, 2, 3])[c]? := fix_lv gj c
    by_cases hlt3 : c < 3
    · obtain ⟨x, hx⟩ : ∃ x : Int, x = (c : Nat) + 1 := ⟨_, rfl⟩
      refine .inr ⟨hlt3, .int x, _, ?_, rfl, ?_⟩
      · rw [hat, hx]
        match c, hlt3 with
        | 0, _ => rfl
        | 1, _ => rfl
        | 2, _ => rfl
      have hsl := subs_len c
      have hsl2 : (subs c).length ≤ 8 := by
        rw [hsl]
        exact Nat.pow_le_pow_right (by omega) hc
      repeat' (first | ((with_reducible apply w_slot); rfl) | (with_reducible apply w_non) | (with_reducible apply w_bl) | (with_reducible apply w_int) | (with_reducible apply w_str) | (with_reducible apply w_tup) | (with_reducible apply w_lst) | (with_reducible apply w_nil) | (with_reducible apply w_cons) | (with_reducible apply w_star) | (with_reducible apply w_bin) | (with_reducible apply w_cmp) | (with_reducible apply w_chain) | (with_reducible apply w_isN) | (with_reducible apply w_notN) | (with_reducible apply w_andW) | (with_reducible apply w_orW) | (with_reducible apply w_not) | (with_reducible apply w_neg) | (with_reducible apply w_ite) | (with_reducible apply w_f1) | (with_reducible apply w_f2) | (with_reducible apply w_isi) | (with_reducible apply w_ix) | (with_reducible apply w_slAll) | (with_reducible apply w_slL) | (with_reducible apply w_slU) | (with_reducible apply w_slLU) | (with_reducible apply w_pop0) | (with_reducible apply w_meth1) | (with_reducible apply w_lcA) | (with_reducible apply w_lsR1) | (with_reducible apply w_lsR2) | (with_reducible apply w_lsZ) | (with_reducible apply w_srtSet) | (with_reducible apply i_seqW) | (with_reducible apply i_rng1W) | (with_reducible apply i_rng2W) | (with_reducible apply i_enumW) | (with_reducible apply i_zipW) | (with_reducible apply s_exprW) | (with_reducible apply s_retW) | (with_reducible apply s_retNW) | (with_reducible apply s_asgW) | (with_reducible apply s_asgT) | (with_reducible apply s_parW) | (with_reducible apply s_iteW) | (with_reducible apply ss_nilW) | (with_reducible apply ss_consW) | (with_reducible apply w_call) | (with_reducible apply WL.v) | (with_reducible apply WL.l) | ((with_reducible apply exW); (with_reducible exact biOf_ref gm)) | ((with_reducible apply exW); first | (with_reducible exact eq_i) | (with_reducible exact eq_I) | (with_reducible exact ne_I) | (with_reducible exact ne_i) | (with_reducible exact len_I) | (with_reducible exact sl_last) | (with_reducible exact sl_take (by omega)) | (with_reducible exact sl_drop (by omega)) | (with_reducible exact mod_I (by omega)) | (with_reducible exact div_I (by omega) (by omega)) | (with_reducible exact cat_I (by omega))) | ((with_reducible apply fewW); (focus ((show _ ≤ 16777216); simp; done))) | ((with_reducible apply exW2); rfl) | ((with_reducible apply exW); rfl) | (exfalso; revert hk; decide) | (exfalso; revert hk; simp; done) | intro hk)
      refine ⟨subs c, tI, fun r => some (tI (r ++ [x])), fix_lv gm, by show (subs c).length < 100000; omega, by show 100000 ≤ 16777216; omega, fun r hr => ⟨_, rfl, c_nilW ⟨fun _ => ?_, fun z => by cases z⟩⟩, ?_⟩
      · have hrl := subs_in c r hr
        have f1 : ∀ h, opB .add h (.v (tI r)) (.v (.tup [.int x])) = some (.v (tI (r ++ [x]))) := fun h => cat_I (l := r) (m := [x]) (by show r.length + 1 ≤ 16777216; omega)
        repeat' (first | ((with_reducible apply w_slot); rfl) | (with_reducible apply w_non) | (with_reducible apply w_bl) | (with_reducible apply w_int) | (with_reducible apply w_str) | (with_reducible apply w_tup) | (with_reducible apply w_lst) | (with_reducible apply w_nil) | (with_reducible apply w_cons) | (with_reducible apply w_star) | (with_reducible apply w_bin) | (with_reducible apply w_cmp) | (with_reducible apply w_chain) | (with_reducible apply w_isN) | (with_reducible apply w_notN) | (with_reducible apply w_andW) | (with_reducible apply w_orW) | (with_reducible apply w_not) | (with_reducible apply w_neg) | (with_reducible apply w_ite) | (with_reducible apply w_f1) | (with_reducible apply w_f2) | (with_reducible apply w_isi) | (with_reducible apply w_ix) | (with_reducible apply w_slAll) | (with_reducible apply w_slL) | (with_reducible apply w_slU) | (with_reducible apply w_slLU) | (with_reducible apply w_pop0) | (with_reducible apply w_meth1) | (with_reducible apply w_lcA) | (with_reducible apply w_lsR1) | (with_reducible apply w_lsR2) | (with_reducible apply w_lsZ) | (with_reducible apply w_srtSet) | (with_reducible apply i_seqW) | (with_reducible apply i_rng1W) | (with_reducible apply i_rng2W) | (with_reducible apply i_enumW) | (with_reducible apply i_zipW) | (with_reducible apply s_exprW) | (with_reducible apply s_retW) | (with_reducible apply s_retNW) | (with_reducible apply s_asgW) | (with_reducible apply s_asgT) | (with_reducible apply s_parW) | (with_reducible apply s_iteW) | (with_reducible apply ss_nilW) | (with_reducible apply ss_consW) | (with_reducible apply w_call) | (with_reducible apply WL.v) | (with_reducible apply WL.l) | ((with_reducible apply exW); (with_reducible exact f1 _)) | ((with_reducible apply exW); first | (with_reducible exact eq_i) | (with_reducible exact eq_I) | (with_reducible exact ne_I) | (with_reducible exact ne_i) | (with_reducible exact len_I) | (with_reducible exact sl_last) | (with_reducible exact sl_take (by omega)) | (with_reducible exact sl_drop (by omega)) | (with_reducible exact mod_I (by omega)) | (with_reducible exact div_I (by omega) (by omega)) | (with_reducible exact cat_I (by omega))) | ((with_reducible apply fewW); (focus ((show _ ≤ 16777216); simp; done))) | ((with_reducible apply exW2); rfl) | ((with_reducible apply exW); rfl) | (exfalso; revert hk; decide) | (exfalso; revert hk; simp; done) | intro hk)
        all_goals exact ⟨rfl, rfl⟩
      · rw [fm_more]
        have hadd : opB .add h' (.v (.ref m)) (.l (((subs c).map fun r => r ++ [x]).map tI)) = some (.l ((subs (c + 1)).map tI)) := by
          have e : itemsM h' (.v (.ref m)) = some ((subs c).map tI) := by
            show (match h'.get m with | some (.lst ts) => some ts | _ => none) = _
            rw [gm]
          show (match Bop.add, itemsM h' (.v (.ref m)), itemsM h' (.l (((subs c).map fun r => r ++ [x]).map tI)) with | .add, some xs, some ys => (Pv.cat xs ys).map VV.l | _, _, _ => none) = _
          rw [e]
          show (Pv.cat ((subs c).map tI) (((subs c).map fun r => r ++ [x]).map tI)).map VV.l = _
          unfold Pv.cat
          rw [if_pos (by rw [List.length_map, List.length_map, List.length_map]; show _ ≤ 16777216; omega), ← List.map_append, hx] <;> rfl
        repeat' (first | ((with_reducible apply w_slot); rfl) | (with_reducible apply w_non) | (with_reducible apply w_bl) | (with_reducible apply w_int) | (with_reducible apply w_str) | (with_reducible apply w_tup) | (with_reducible apply w_lst) | (with_reducible apply w_nil) | (with_reducible apply w_cons) | (with_reducible apply w_star) | (with_reducible apply w_bin) | (with_reducible apply w_cmp) | (with_reducible apply w_chain) | (with_reducible apply w_isN) | (with_reducible apply w_notN) | (with_reducible apply w_andW) | (with_reducible apply w_orW) | (with_reducible apply w_not) | (with_reducible apply w_neg) | (with_reducible apply w_ite) | (with_reducible apply w_f1) | (with_reducible apply w_f2) | (with_reducible apply w_isi) | (with_reducible apply w_ix) | (with_reducible apply w_slAll) | (with_reducible apply w_slL) | (with_reducible apply w_slU) | (with_reducible apply w_slLU) | (with_reducible apply w_pop0) | (with_reducible apply w_meth1) | (with_reducible apply w_lcA) | (with_reducible apply w_lsR1) | (with_reducible apply w_lsR2) | (with_reducible apply w_lsZ) | (with_reducible apply w_srtSet) | (with_reducible apply i_seqW) | (with_reducible apply i_rng1W) | (with_reducible apply i_rng2W) | (with_reducible apply i_enumW) | (with_reducible apply i_zipW) | (with_reducible apply s_exprW) | (with_reducible apply s_retW) | (with_reducible apply s_retNW) | (with_reducible apply s_asgW) | (with_reducible apply s_asgT) | (with_reducible apply s_parW) | (with_reducible apply s_iteW) | (with_reducible apply ss_nilW) | (with_reducible apply ss_consW) | (with_reducible apply w_call) | (with_reducible apply WL.v) | (with_reducible apply WL.l) | ((with_reducible apply exW); (with_reducible exact hadd)) | ((with_reducible apply exW); first | (with_reducible exact eq_i) | (with_reducible exact eq_I) | (with_reducible exact ne_I) | (with_reducible exact ne_i) | (with_reducible exact len_I) | (with_reducible exact sl_last) | (with_reducible exact sl_take (by omega)) | (with_reducible exact sl_drop (by omega)) | (with_reducible exact mod_I (by omega)) | (with_reducible exact div_I (by omega) (by omega)) | (with_reducible exact cat_I (by omega))) | ((with_reducible apply fewW); (focus ((show _ ≤ 16777216); simp; done))) | ((with_reducible apply exW2); rfl) | ((with_reducible apply exW); rfl) | (exfalso; revert hk; decide) | (exfalso; revert hk; simp; done) | intro hk)
        exact ⟨rfl, h'.next, _, _, rfl, get_new_same, Nat.lt_succ_self _, by rw [get_new_ne (Nat.lt_of_lt_of_le hlt (kp 0).1), gj], fun i => (kp i).trans Kp.new⟩
    · have hce : c = 3 := by omega
      subst hce
      refine .inl ⟨by rw [hat]; rfl, ?_⟩
      repeat' (first | ((with_reducible apply w_slot); rfl) | (with_reducible apply w_non) | (with_reducible apply w_bl) | (with_reducible apply w_int) | (with_reducible apply w_str) | (with_reducible apply w_tup) | (with_reducible apply w_lst) | (with_reducible apply w_nil) | (with_reducible apply w_cons) | (with_reducible apply w_star) | (with_reducible apply w_bin) | (with_reducible apply w_cmp) | (with_reducible apply w_chain) | (with_reducible apply w_isN) | (with_reducible apply w_notN) | (with_reducible apply w_andW) | (with_reducible apply w_orW) | (with_reducible apply w_not) | (with_reducible apply w_neg) | (with_reducible apply w_ite) | (with_reducible apply w_f1) | (with_reducible apply w_f2) | (with_reducible apply w_isi) | (with_reducible apply w_ix) | (with_reducible apply w_slAll) | (with_reducible apply w_slL) | (with_reducible apply w_slU) | (with_reducible apply w_slLU) | (with_reducible apply w_pop0) | (with_reducible apply w_meth1) | (with_reducible apply w_lcA) | (with_reducible apply w_lsR1) | (with_reducible apply w_lsR2) | (with_reducible apply w_lsZ) | (with_reducible apply w_srtSet) | (with_reducible apply i_seqW) | (with_reducible apply i_rng1W) | (with_reducible apply i_rng2W) | (with_reducible apply i_enumW) | (with_reducible apply i_zipW) | (with_reducible apply s_exprW) | (with_reducible apply s_retW) | (with_reducible apply s_retNW) | (with_reducible apply s_asgW) | (with_reducible apply s_asgT) | (with_reducible apply s_parW) | (with_reducible apply s_iteW) | (with_reducible apply ss_nilW) | (with_reducible apply ss_consW) | (with_reducible apply w_call) | (with_reducible apply WL.v) | (with_reducible apply WL.l) | ((with_reducible apply exW); first | (with_reducible exact eq_i) | (with_reducible exact eq_I) | (with_reducible exact ne_I) | (with_reducible exact ne_i) | (with_reducible exact len_I) | (with_reducible exact sl_last) | (with_reducible exact sl_take (by omega)) | (with_reducible exact sl_drop (by omega)) | (with_reducible exact mod_I (by omega)) | (with_reducible exact div_I (by omega) (by omega)) | (with_reducible exact cat_I (by omega))) | ((with_reducible apply fewW); (focus ((show _ ≤ 16777216); simp; done))) | ((with_reducible apply exW2); rfl) | ((with_reducible apply exW); rfl) | (exfalso; revert hk; decide) | (exfalso; revert hk; simp; done) | intro hk)
      exact ⟨m, rfl, gm, hm, kp⟩
/-- a call of trees without objects that gives an object -/
theorem call_a {k : Nat} {f : Str} {d : Df} {ts : List T} {Q : T → Hd → Prop} {h : Hd} (e : pd.DL.lookup f = some d) (hp : T.pures ts = true) (hl : ts.length = d.ps)
    (q : WS (evSs ⟨callN pd.DL pd.glob 100000 k, pd.glob, 100000⟩ d.body (ts.map some ++ List.replicate (d.n - d.ps) none) ⟨h.next, []⟩) ⟨fun _ _ => False, fun t h' => t.pure = false ∧ ∀ h2 : Hd, h2.next = h'.next → (∀ j o, h'.get j = some o → h2.get j = some o) → (∀ j, j < h.next → h'.get j = none → h2.get j = h.get j) → Q t h2, fun _ _ => False, fun _ _ => False⟩) : WE (cl (k + 1) f ts h) Q := by
  show WE (match pd.DL.lookup f with | some d => if T.pures ts then after h (runDf ⟨callN pd.DL pd.glob 100000 k, pd.glob, 100000⟩ d ts ⟨h.next, []⟩) else runDf ⟨callN pd.DL pd.glob 100000 k, pd.glob, 100000⟩ d ts h | none => .fail) Q
  rw [e]
  simp only [hp, if_true]
  obtain ⟨x, h', e1, e2, e3⟩ := (run_w (P := ⟨callN pd.DL pd.glob 100000 k, pd.glob, 100000⟩) (d := d) (ts := ts) (h := ⟨h.next, []⟩) (Q := fun t h' => t.pure = false ∧ ∀ h2 : Hd, h2.next = h'.next → (∀ j o, h'.get j = some o → h2.get j = some o) → (∀ j, j < h.next → h'.get j = none → h2.get j = h.get j) → Q t h2) hl (q.imp (fun _ _ z => z.elim) (fun _ _ z => z) (fun _ _ z => z) (fun _ _ z => z))).get
  rw [e1]
  have hall : ∀ l : List (Nat × Ob), allL l = true := fun l => by
    induction l with
    | nil => rfl
    | cons a l ih => obtain ⟨i, o⟩ := a; cases o; exact ih
  show WE (if x.pure then Res.ok x h else if allL h'.obs then .ok x ⟨h'.next, h'.obs ++ h.obs⟩ else .fail) Q
  rw [e2, hall]
  refine e3 ⟨h'.next, h'.obs ++ h.obs⟩ rfl (fun j o ho => ?_) (fun j hj hn => ?_)
  · show look (h'.obs ++ h.obs) j = _
    rw [look_app]
    have : look h'.obs j = some o := ho
    rw [this]
  · show look (h'.obs ++ h.obs) j = look h.obs j
    rw [look_app]
    have : look h'.obs j = none := hn
    rw [this]
def sets : List (List Int) := [[1], [1, 2], [1, 2, 3], [1, 3], [2], [2, 3], [3]]
theorem sets_lt : ∀ s ∈ sets, Lt s := by
  have h : ∀ s ∈ sets, s ≠ [] ∧ (∀ i ∈ s, 1 ≤ i ∧ i ≤ 3) ∧ (∀ q ∈ s.zip (s.drop 1), q.1 < q.2) ∧ s.length ≤ 100 := by decide
  exact fun s hs => ⟨(h s hs).1, (h s hs).2.1, (h s hs).2.2.1, (h s hs).2.2.2⟩
theorem e_sets (k : Nat) (i n : Nat) (h : Hd) (bx : Box i n h) : WE (cl (k + 2) "_law_sets" [.int 3] h) fun t h' => ∃ m, t = .ref m ∧ h'.get m = some (.lst (sets.map tI)) ∧ m < h'.next ∧ h.next ≤ m ∧ Box i n h' ∧ Kp i h h' := by
  refine call_a lk__law_sets rfl rfl ?_
  dsimp only [d__law_sets, List.map_cons, List.map_nil, List.cons_append, List.nil_append, List.append_nil, Nat.reduceSub, Nat.sub_self, List.replicate]
  with_reducible apply ss_consW
  with_reducible apply s_retW
  with_reducible apply w_f1
  with_reducible apply w_lcA
  with_reducible apply i_seqW
  have hrg : rgL 1 (3 + 1) = some (.l (ti [1, 2, 3])) := rfl
  repeat' (first | ((with_reducible apply w_slot); rfl) | (with_reducible apply w_non) | (with_reducible apply w_bl) | (with_reducible apply w_int) | (with_reducible apply w_str) | (with_reducible apply w_tup) | (with_reducible apply w_lst) | (with_reducible apply w_nil) | (with_reducible apply w_cons) | (with_reducible apply w_star) | (with_reducible apply w_bin) | (with_reducible apply w_cmp) | (with_reducible apply w_chain) | (with_reducible apply w_isN) | (with_reducible apply w_notN) | (with_reducible apply w_andW) | (with_reducible apply w_orW) | (with_reducible apply w_not) | (with_reducible apply w_neg) | (with_reducible apply w_ite) | (with_reducible apply w_f1) | (with_reducible apply w_f2) | (with_reducible apply w_isi) | (with_reducible apply w_ix) | (with_reducible apply w_slAll) | (with_reducible apply w_slL) | (with_reducible apply w_slU) | (with_reducible apply w_slLU) | (with_reducible apply w_pop0) | (with_reducible apply w_meth1) | (with_reducible apply w_lcA) | (with_reducible apply w_lsR1) | (with_reducible apply w_lsR2) | (with_reducible apply w_lsZ) | (with_reducible apply w_srtSet) | (with_reducible apply i_seqW) | (with_reducible apply i_rng1W) | (with_reducible apply i_rng2W) | (with_reducible apply i_enumW) | (with_reducible apply i_zipW) | (with_reducible apply s_exprW) | (with_reducible apply s_retW) | (with_reducible apply s_retNW) | (with_reducible apply s_asgW) | (with_reducible apply s_asgT) | (with_reducible apply s_parW) | (with_reducible apply s_iteW) | (with_reducible apply ss_nilW) | (with_reducible apply ss_consW) | (with_reducible apply w_call) | (with_reducible apply WL.v) | (with_reducible apply WL.l) | ((with_reducible apply exW); (with_reducible exact hrg)) | ((with_reducible apply exW); first | (with_reducible exact eq_i) | (with_reducible exact eq_I) | (with_reducible exact ne_I) | (with_reducible exact ne_i) | (with_reducible exact len_I) | (with_reducible exact sl_last) | (with_reducible exact sl_take (by omega)) | (with_reducible exact sl_drop (by omega)) | (with_reducible exact mod_I (by omega)) | (with_reducible exact div_I (by omega) (by omega)) | (with_reducible exact cat_I (by omega))) | ((with_reducible apply fewW); (focus ((show _ ≤ 16777216); simp; done))) | ((with_reducible apply exW2); rfl) | ((with_reducible apply exW); rfl) | (exfalso; revert hk; decide) | (exfalso; revert hk; simp; done) | intro hk)
  refine WE.imp (e_gaps k h.next _ get_new_same (Nat.lt_succ_self _)) ?_
  rintro _ h1 ⟨m, rfl, gm, hm, kp⟩
  refine ⟨.lv m, biOf_ref gm, subs 3, tI, fun r => if r = [] then none else some (tI r), fix_lv gm, by show 8 < 100000; omega, by show 100000 ≤ 16777216; omega, fun r hr => ⟨_, rfl, c_oneW ?_⟩, ?_⟩
  · have hne : ∀ h, opC .ne h (.v (tI r)) (.v (.tup [])) = some (!decide (r = [])) := fun h => ne_I (m := [])
    have htu : ∀ h, op1 .tuple h (.v (tI r)) = some (.v (tI r)) := fun h => rfl
    repeat' (first | ((with_reducible apply w_slot); rfl) | (with_reducible apply w_non) | (with_reducible apply w_bl) | (with_reducible apply w_int) | (with_reducible apply w_str) | (with_reducible apply w_tup) | (with_reducible apply w_lst) | (with_reducible apply w_nil) | (with_reducible apply w_cons) | (with_reducible apply w_star) | (with_reducible apply w_bin) | (with_reducible apply w_cmp) | (with_reducible apply w_chain) | (with_reducible apply w_isN) | (with_reducible apply w_notN) | (with_reducible apply w_andW) | (with_reducible apply w_orW) | (with_reducible apply w_not) | (with_reducible apply w_neg) | (with_reducible apply w_ite) | (with_reducible apply w_f1) | (with_reducible apply w_f2) | (with_reducible apply w_isi) | (with_reducible apply w_ix) | (with_reducible apply w_slAll) | (with_reducible apply w_slL) | (with_reducible apply w_slU) | (with_reducible apply w_slLU) | (with_reducible apply w_pop0) | (with_reducible apply w_meth1) | (with_reducible apply w_lcA) | (with_reducible apply w_lsR1) | (with_reducible apply w_lsR2) | (with_reducible apply w_lsZ) | (with_reducible apply w_srtSet) | (with_reducible apply i_seqW) | (with_reducible apply i_rng1W) | (with_reducible apply i_rng2W) | (with_reducible apply i_enumW) | (with_reducible apply i_zipW) | (with_reducible apply s_exprW) | (with_reducible apply s_retW) | (with_reducible apply s_retNW) | (with_reducible apply s_asgW) | (with_reducible apply s_asgT) | (with_reducible apply s_parW) | (with_reducible apply s_iteW) | (with_reducible apply ss_nilW) | (with_reducible apply ss_consW) | (with_reducible apply w_call) | (with_reducible apply WL.v) | (with_reducible apply WL.l) | ((with_reducible apply exW); (with_reducible first | exact hne _ | exact htu _)) | ((with_reducible apply exW); first | (with_reducible exact eq_i) | (with_reducible exact eq_I) | (with_reducible exact ne_I) | (with_reducible exact ne_i) | (with_reducible exact len_I) | (with_reducible exact sl_last) | (with_reducible exact sl_take (by omega)) | (with_reducible exact sl_drop (by omega)) | (with_reducible exact mod_I (by omega)) | (with_reducible exact div_I (by omega) (by omega)) | (with_reducible exact cat_I (by omega))) | ((with_reducible apply fewW); (focus ((show _ ≤ 16777216); simp; done))) | ((with_reducible apply exW2); rfl) | ((with_reducible apply exW); rfl) | (exfalso; revert hk; decide) | (exfalso; revert hk; simp; done) | intro hk)
    all_goals first
      | (have e : r ≠ [] := by
           have hk : (!decide (r = [])) = true := hk
           simpa using hk
         exact ⟨by show some (tI r) = (if r = [] then none else some (tI r)); rw [if_neg e], rfl⟩)
      | (have e : r = [] := by
           have hk : (!decide (r = [])) = false := hk
           simpa using hk
         exact ⟨by show none = (if r = [] then none else some (tI r)); rw [if_pos e], rfl⟩)
  · have hso : ∀ h, op1 .sorted h (.l ((subs 3).filterMap fun r => if r = [] then none else some (tI r))) = some (.l (sets.map tI)) := fun h => by rfl
    refine exW (hso _) ?_
    refine WL.l ⟨rfl, fun h2 e1 e2 e3 => ⟨_, rfl, e2 _ _ get_new_same, by rw [e1]; exact Nat.lt_succ_self _, ?_, ?_, ?_⟩⟩
    · have := (kp 0).1
      exact Nat.le_trans (Nat.le_succ _) this
    · have hnn : ∀ j, j < h.next → (h1.new (.lst (sets.map tI))).get j = none := fun j hj => by
        have a1 := (kp 0).1
        have a1 : h.next + 1 ≤ h1.next := a1
        rw [get_new_ne (by omega)]
        have q : ∀ i, i ≠ j → h1.get j = ((⟨h.next, []⟩ : Hd).new (.lst (ti [1, 2, 3]))).get j := fun i hi => (kp i).2 j (by show j < h.next + 1; omega) (fun z => hi z.symm)
        rw [q (j + 1) (by omega), get_new_ne (h := ⟨h.next, []⟩) hj] <;> rfl
      refine bx.keep (by rw [e1]; exact Nat.le_trans (Nat.le_trans (Nat.le_succ _) (kp 0).1) (Nat.le_succ _)) (e3 i bx.1 (hnn i bx.1))
    · have hnn : ∀ j, j < h.next → (h1.new (.lst (sets.map tI))).get j = none := fun j hj => by
        have a1 := (kp 0).1
        have a1 : h.next + 1 ≤ h1.next := a1
        rw [get_new_ne (by omega)]
        have q : ∀ i, i ≠ j → h1.get j = ((⟨h.next, []⟩ : Hd).new (.lst (ti [1, 2, 3]))).get j := fun i hi => (kp i).2 j (by show j < h.next + 1; omega) (fun z => hi z.symm)
        rw [q (j + 1) (by omega), get_new_ne (h := ⟨h.next, []⟩) hj] <;> rfl
      exact ⟨by rw [e1]; exact Nat.le_trans (Nat.le_trans (Nat.le_succ _) (kp 0).1) (Nat.le_succ _), fun j hj _ => e3 j hj (hnn j hj)⟩
end K01
end

section
set_option Elab.async false
set_option linter.all false
set_option maxRecDepth 100000
set_option maxHeartbeats 1000000
namespace K01
open PySem Pv Las
/-! ### endless rows: what lies behind, what is put ahead, where two part -/
theorem word_turn {a b : List Int} {t : Nat} (hb : b ≠ []) (ht : t ≤ b.length) : word (a ++ b.take t) (b.drop t ++ b.take t) = word a b := by
  have hp : 0 < b.length := List.length_pos_iff.mpr hb
  funext n
  have l1 : (a ++ b.take t).length = a.length + t := by rw [List.length_append, List.length_take]; omega
  have l2 : (b.drop t ++ b.take t).length = b.length := by rw [List.length_append, List.length_take, List.length_drop]; omega
  unfold word
  rw [l1, l2]
  by_cases h1 : n < a.length
  · rw [if_pos h1, if_pos (by omega), List.getElem?_append_left h1]
  · rw [if_neg h1]
    by_cases h2 : n < a.length + t
    · rw [if_pos h2, List.getElem?_append_right (by omega), List.getElem?_take, if_pos (by omega), Nat.mod_eq_of_lt (by omega)]
    · rw [if_neg h2]
      have e : n - a.length = (n - (a.length + t)) + t := by omega
      rw [e]
      generalize n - (a.length + t) = i
      have hi : i % b.length < b.length := Nat.mod_lt _ hp
      rw [← Nat.mod_add_mod]
      generalize i % b.length = j at hi
      by_cases h3 : j < b.length - t
      · rw [List.getElem?_append_left (by rw [List.length_drop]; exact h3), List.getElem?_drop, Nat.mod_eq_of_lt (by omega), Nat.add_comm]
      · rw [List.getElem?_append_right (by rw [List.length_drop]; omega), List.length_drop, List.getElem?_take, if_pos (by omega), Nat.mod_eq_sub_mod (by omega), Nat.mod_eq_of_lt (by omega)]
        congr 1
        omega
theorem word_drop {a b : List Int} {m n : Nat} (hm : m ≤ a.length) : word (a.drop m) b n = word a b (m + n) := by
  unfold word
  rw [List.length_drop, List.getElem?_drop]
  by_cases h : n < a.length - m
  · rw [if_pos h, if_pos (by omega)]
  · rw [if_neg h, if_neg (by omega), show n - (a.length - m) = m + n - a.length by omega]
theorem word_rot {a b : List Int} (hb : b ≠ []) {m n : Nat} (hm : a.length ≤ m) : word [] (b.drop ((m - a.length) % b.length) ++ b.take ((m - a.length) % b.length)) n = word a b (m + n) := by
  have hp : 0 < b.length := List.length_pos_iff.mpr hb
  have hr : (m - a.length) % b.length < b.length := Nat.mod_lt _ hp
  generalize hrr : (m - a.length) % b.length = r at hr
  have h1 := word_turn (a := []) (b := b) (t := r) hb (by omega)
  have h2 := word_drop (a := [] ++ b.take r) (b := b.drop r ++ b.take r) (m := r) (n := n) (by rw [List.nil_append, List.length_take]; omega)
  rw [h1] at h2
  have h3 : ([] ++ b.take r).drop r = [] := by rw [List.nil_append]; exact List.drop_eq_nil_of_le (by rw [List.length_take]; omega)
  rw [h3] at h2
  rw [h2]
  unfold word
  rw [if_neg (by simp), if_neg (by omega)]
  rw [show m + n - a.length = (m - a.length) + n by omega, ← Nat.mod_add_mod (m - a.length) b.length n, hrr]
  rfl
theorem word_app {t a b : List Int} {n : Nat} : word (t ++ a) b n = if n < t.length then t[n]? else word a b (n - t.length) := by
  unfold word
  rw [List.length_append]
  by_cases h : n < t.length
  · rw [if_pos h, if_pos (by omega), List.getElem?_append_left h]
  · rw [if_neg h]
    by_cases h2 : n < t.length + a.length
    · rw [if_pos h2, if_pos (by omega), List.getElem?_append_right (by omega)]
    · rw [if_neg h2, if_neg (by omega), show n - (t.length + a.length) = n - t.length - a.length by omega]
/-- alike long enough, alike for ever -/
theorem agree {a b a' b' : List Int} (hb : b ≠ []) (hb' : b' ≠ []) (h : ∀ n, n < max a.length a'.length + b.length + b'.length → word a b n = word a' b' n) : word a b = word a' b' := by
  have p1 := (word_per (a := a) hb).mono (Nat.le_max_left a.length a'.length)
  have p2 := (word_per (a := a') hb').mono (Nat.le_max_right a.length a'.length)
  have hp : 0 < b.length := List.length_pos_iff.mpr hb
  have hq : 0 < b'.length := List.length_pos_iff.mpr hb'
  generalize max a.length a'.length = N at h p1 p2
  funext n
  induction n using Nat.strongRecOn with
  | ind n ih =>
    by_cases hn : n < N + b.length + b'.length
    · exact h n hn
    · have e1 := p1 (n - b.length) (by omega)
      rw [show n - b.length + b.length = n by omega] at e1
      have e2 := p2 (n - b.length - b'.length) (by omega)
      rw [show n - b.length - b'.length + b'.length = n - b.length by omega] at e2
      have e3 := p1 (n - b.length - b'.length) (by omega)
      rw [show n - b.length - b'.length + b.length = n - b'.length by omega] at e3
      have e4 := p2 (n - b'.length) (by omega)
      rw [show n - b'.length + b'.length = n by omega] at e4
      rw [e1, ih (n - b.length) (by omega), e2, ← ih (n - b.length - b'.length) (by omega), ← e3, ih (n - b'.length) (by omega), ← e4]
theorem word_some {a b : List Int} (hb : b ≠ []) (n : Nat) : ∃ x, word a b n = some x ∧ (x ∈ a ∨ x ∈ b) := by
  have hp : 0 < b.length := List.length_pos_iff.mpr hb
  unfold word
  by_cases h : n < a.length
  · rw [if_pos h, List.getElem?_eq_getElem h]
    exact ⟨_, rfl, .inl (List.getElem_mem h)⟩
  · rw [if_neg h, List.getElem?_eq_getElem (Nat.mod_lt _ hp)]
    exact ⟨_, rfl, .inr (List.getElem_mem _)⟩
/-! the same sets of letters -/
theorem mem_rep {x : Int} {j : Nat} {c : List Int} (hj : 1 ≤ j) : x ∈ rep j c ↔ x ∈ c := by
  unfold rep
  rw [List.mem_flatten]
  constructor
  · rintro ⟨l, hl, hx⟩
    rw [(List.mem_replicate.mp hl).2] at hx
    exact hx
  · intro hx
    exact ⟨c, List.mem_replicate.mpr ⟨by omega, rfl⟩, hx⟩
theorem mem_root {x : Int} {b : List Int} (hb : b ≠ []) : x ∈ root b ↔ x ∈ b := by
  obtain ⟨h1, h2, h3, _⟩ := root_ok hb
  obtain ⟨c1, c2⟩ := cond_iff.mp h3
  have hj : 1 ≤ b.length / rootLen b := Nat.div_pos h2 h1
  constructor
  · exact fun h => List.mem_of_mem_take h
  · intro h
    rw [← c2] at h
    exact (mem_rep hj).mp h
theorem short_nil (b : List Int) : shortIn [] b = ([], root b) := rfl
theorem mem_rot {x : Int} {b : List Int} {r : Nat} : x ∈ b.drop r ++ b.take r ↔ x ∈ b := by
  have h := List.take_append_drop r b
  constructor
  · intro z
    rcases List.mem_append.mp z with z | z
    · exact List.mem_of_mem_drop z
    · exact List.mem_of_mem_take z
  · intro z
    rw [← h] at z
    rcases List.mem_append.mp z with z | z
    · exact List.mem_append_right _ z
    · exact List.mem_append_left _ z
theorem set_eq {l m : List Int} (h : ∀ x, x ∈ l ↔ x ∈ m) : sortI (dedI l) = sortI (dedI m) :=
  lt_eq (sortI_lt (nodup_dedI l)) (sortI_lt (nodup_dedI m)) fun x => by rw [(sortI_perm _).mem_iff, (sortI_perm _).mem_iff, mem_dedI, mem_dedI]; exact h x
end K01
end

section
set_option Elab.async false
set_option linter.all false
set_option maxRecDepth 100000
set_option maxHeartbeats 1000000
namespace K01
open PySem Pv Las
/-! ### counting, step by step -/
theorem cnt_take (s : List Int) {l : List Int} {j : Nat} {x : Int} (hx : l[j]? = some x) : cnt s (l.take (j + 1)) = cnt s (l.take j) + (if x ∈ s then 1 else 0) := by
  have hlt : j < l.length := by
    rcases Nat.lt_or_ge j l.length with z | z
    · exact z
    · rw [List.getElem?_eq_none z] at hx; cases hx
  rw [List.getElem?_eq_getElem hlt] at hx
  cases hx
  unfold cnt
  rw [List.take_succ_eq_append_getElem hlt, List.filter_append, List.length_append]
  congr 1
  by_cases h : l[j] ∈ s
  · rw [if_pos h]; simp [h]
  · rw [if_neg h]; simp [h]
theorem cnt_all (l : List Int) (h : ∀ x ∈ l, 1 ≤ x ∧ x ≤ 3) : cnt [1, 2, 3] l = l.length := by
  unfold cnt
  rw [List.filter_eq_self.mpr fun x hx => ?_]
  have := h x hx
  refine decide_eq_true ?_
  have h3 : x = 1 ∨ x = 2 ∨ x = 3 := by omega
  rcases h3 with e | e | e <;> rw [e] <;> decide
theorem often_zero (p : List Int × List Int) (s : List Int) : often p s 0 = 0 := by
  unfold often
  rw [if_pos (by omega)]
  rfl
theorem often_big {p : List Int × List Int} {s : List Int} {m : Int} (h : (p.1.length : Int) < m) : often p s m = cnt s p.1 + (m - p.1.length) / p.2.length * cnt s p.2 + cnt s (p.2.take ((m - p.1.length) % p.2.length).toNat) := by
  unfold often
  rw [if_neg (by omega)]
theorem often_step {p : List Int × List Int} (s : List Int) (hb : p.2 ≠ []) {m : Int} (h : (p.1.length : Int) + 1 < m) {x : Int} (hx : p.2[((m - p.1.length - 1) % p.2.length).toNat]? = some x) : often p s (m - 1) = often p s m - (if x ∈ s then 1 else 0) := by
  have hp : 0 < p.2.length := List.length_pos_iff.mpr hb
  rw [often_big (by omega), often_big (by omega)]
  have e0 : m - 1 - (p.1.length : Int) = m - p.1.length - 1 := by omega
  rw [e0]
  generalize m - (p.1.length : Int) = n at hx
  have hB : (0 : Int) < p.2.length := by omega
  have d1 := Int.emod_add_mul_ediv n p.2.length
  have d2 := Int.emod_nonneg n (show (p.2.length : Int) ≠ 0 by omega)
  have d3 := Int.emod_lt_of_pos n hB
  generalize hq : n / (p.2.length : Int) = q at d1
  generalize hr : n % (p.2.length : Int) = r at d1 d2 d3
  by_cases h0 : r = 0
  · have u := (Int.ediv_emod_unique (a := n - 1) (r := (p.2.length : Int) - 1) (q := q - 1) hB).mpr ⟨by rw [Int.mul_sub]; omega, by omega, by omega⟩
    rw [u.1, u.2]
    rw [u.2] at hx
    have e1 : ((p.2.length : Int) - 1).toNat = p.2.length - 1 := by omega
    rw [e1] at hx ⊢
    have c1 := cnt_take s hx
    rw [show p.2.length - 1 + 1 = p.2.length by omega, List.take_length] at c1
    have e2 : (q - 1) * (cnt s p.2 : Int) = q * (cnt s p.2 : Int) - (cnt s p.2 : Int) := by rw [Int.sub_mul, Int.one_mul]
    rw [e2, h0]
    show _ = (cnt s p.1 : Int) + q * (cnt s p.2 : Int) + ((0 : Nat) : Int) - _
    split at c1
    · rename_i hin
      rw [if_pos hin]
      omega
    · rename_i hin
      rw [if_neg hin]
      omega
  · have u := (Int.ediv_emod_unique (a := n - 1) (r := r - 1) (q := q) hB).mpr ⟨by omega, by omega, by omega⟩
    rw [u.1, u.2]
    rw [u.2] at hx
    have c1 := cnt_take s hx
    rw [show (r - 1).toNat + 1 = r.toNat by omega] at c1
    split at c1
    · rename_i hin
      rw [if_pos hin]
      omega
    · rename_i hin
      rw [if_neg hin]
      omega
theorem often_all {p : List Int × List Int} (hb : p.2 ≠ []) (h1 : ∀ x ∈ p.1, 1 ≤ x ∧ x ≤ 3) (h2 : ∀ x ∈ p.2, 1 ≤ x ∧ x ≤ 3) {m : Int} (h : (p.1.length : Int) < m) : often p [1, 2, 3] m = m := by
  have hp : 0 < p.2.length := List.length_pos_iff.mpr hb
  rw [often_big h, cnt_all _ h1, cnt_all _ h2, cnt_all _ fun x hx => h2 x (List.mem_of_mem_take hx), List.length_take]
  have hB : (0 : Int) < p.2.length := by omega
  have d1 := Int.emod_add_mul_ediv (m - p.1.length) p.2.length
  have d2 := Int.emod_nonneg (m - p.1.length) (show (p.2.length : Int) ≠ 0 by omega)
  have d3 := Int.emod_lt_of_pos (m - p.1.length) hB
  rw [Int.mul_comm] at d1
  omega
/-! what lies behind -/
structure Beh (p q : List Int × List Int) (m : Nat) : Prop where
  ok : Lok q
  l1 : q.1.length ≤ p.1.length
  w : ∀ n, word q.1 q.2 n = word p.1 p.2 (m + n)
  s : shortIn q.1 q.2 = q
theorem rot_ne {b : List Int} {r : Nat} (hb : b ≠ []) : b.drop r ++ b.take r ≠ [] := fun e => by
  cases b with
  | nil => exact hb rfl
  | cons x b =>
    have := (mem_rot (x := x) (b := x :: b) (r := r)).mpr List.mem_cons_self
    rw [e] at this
    cases this
theorem behind_ok {p : List Int × List Int} (ok : Lok p) (m : Int) (h0 : 0 ≤ m) : Beh p (behind p m) m.toNat := by
  have hp : 0 < p.2.length := List.length_pos_iff.mpr ok.ne
  have hl1 := ok.l1
  have hl2 := ok.l2
  unfold behind
  by_cases h : m ≤ p.1.length
  · rw [if_pos h]
    have ok2 : Lok (p.1.drop m.toNat, p.2) := ⟨ok.ne, by show (p.1.drop m.toNat).length ≤ 900; rw [List.length_drop]; omega, hl2, fun i hi => ok.i1 i (List.mem_of_mem_drop hi), ok.i2⟩
    have sm := short_mem (a := p.1.drop m.toNat) (b := p.2)
    refine ⟨short_lok ok2, ?_, fun n => ?_, short_again ok.ne⟩
    · have := sm.2.2
      rw [List.length_drop] at this
      omega
    · rw [(short_ok (a := p.1.drop m.toNat) ok.ne).1, word_drop (by omega)]
  · rw [if_neg h]
    have e1 : ((m - (p.1.length : Int)) % (p.2.length : Int)).toNat = (m.toNat - p.1.length) % p.2.length := by
      have : m - (p.1.length : Int) = ((m.toNat - p.1.length : Nat) : Int) := by omega
      rw [this, ← Int.natCast_emod, Int.toNat_natCast]
    rw [e1]
    have hne := rot_ne (b := p.2) (r := (m.toNat - p.1.length) % p.2.length) ok.ne
    have ok2 : Lok ([], p.2.drop ((m.toNat - p.1.length) % p.2.length) ++ p.2.take ((m.toNat - p.1.length) % p.2.length)) := ⟨hne, Nat.zero_le _, by show ((_ : List Int) ++ (_ : List Int)).length ≤ 900; rw [List.length_append, List.length_drop, List.length_take]; omega, fun i hi => (by cases hi), fun i hi => ok.i2 i (mem_rot.mp hi)⟩
    have sm := short_mem (a := []) (b := p.2.drop ((m.toNat - p.1.length) % p.2.length) ++ p.2.take ((m.toNat - p.1.length) % p.2.length))
    refine ⟨short_lok ok2, ?_, fun n => ?_, short_again hne⟩
    · exact Nat.le_trans sm.2.2 (Nat.zero_le _)
    · rw [(short_ok (a := []) hne).1, word_rot ok.ne (by omega)]
/-- far behind: the letters are the round's -/
theorem behind_sets {p : List Int × List Int} (ok : Lok p) {m : Int} (h : (p.1.length : Int) < m) : setS ((behind p m).1 ++ (behind p m).2) = setS p.2 ∧ setS (behind p m).2 = setS p.2 := by
  unfold behind
  rw [if_neg (by omega), short_nil]
  have hne := rot_ne (b := p.2) (r := ((m - (p.1.length : Int)) % (p.2.length : Int)).toNat) ok.ne
  have key : ∀ x, x ∈ root (p.2.drop ((m - (p.1.length : Int)) % (p.2.length : Int)).toNat ++ p.2.take ((m - (p.1.length : Int)) % (p.2.length : Int)).toNat) ↔ x ∈ p.2 := fun x => by rw [mem_root hne, mem_rot]
  exact ⟨set_eq fun x => by rw [List.nil_append]; exact key x, set_eq key⟩
end K01
end

section
set_option Elab.async false
set_option linter.all false
set_option maxRecDepth 100000
set_option maxHeartbeats 2000000
namespace K01
open PySem Pv Las
def sdrop : Nat → Ss → Ss
  | 0, s => s
  | n + 1, .cons _ s => sdrop n s
  | _, s => s
abbrev P23 : Prg := ⟨callN pd.DL pd.glob 100000 23, pd.glob, 100000⟩
abbrev DT : Ws := ⟨fun _ _ => False, fun t _ => t = .bl true, fun _ _ => False, fun _ _ => False⟩
/-- an own lasso -/
structure Own (p : List Int × List Int) : Prop where
  l1 : p.1.length ≤ 6
  l2 : p.2.length ≤ 5
  ne : p.2 ≠ []
  i1 : ∀ x ∈ p.1, 1 ≤ x ∧ x ≤ 3
  i2 : ∀ x ∈ p.2, 1 ≤ x ∧ x ≤ 3
theorem Own.lok {p : List Int × List Int} (o : Own p) : Lok p := ⟨o.ne, by have := o.l1; omega, by have := o.l2; omega, o.i1, o.i2⟩
theorem sm_las (p : List Int × List Int) : sm (las p) = true := by
  show (sms (ti p.1) && (sms (ti p.2) && true)) = true
  have h : ∀ l : List Int, sms (ti l) = true := fun l => by
    induction l with
    | nil => rfl
    | cons x l ih => exact ih
  rw [h, h] <;> rfl
theorem pre_get {p : List Int × List Int} (ok : Lok p) {m n : Nat} (h : n < m) : (pre p m)[n]? = word p.1 p.2 n := by
  unfold pre
  rw [List.getElem?_map, List.getElem?_range h]
  obtain ⟨x, hx, _⟩ := word_some (a := p.1) ok.ne n
  show some ((word p.1 p.2 n).getD 0) = _
  rw [hx] <;> rfl
theorem pre_len (p : List Int × List Int) (m : Nat) : (pre p m).length = m := by unfold pre; rw [List.length_map, List.length_range]
theorem pre_in {p : List Int × List Int} (o : Own p) {m : Nat} : ∀ x ∈ pre p m, 1 ≤ x ∧ x ≤ 3 := fun x hx => by
  unfold pre at hx
  obtain ⟨n, _, rfl⟩ := List.mem_map.mp hx
  obtain ⟨y, hy, hm⟩ := word_some (a := p.1) o.ne n
  rw [hy]
  rcases hm with z | z
  · exact o.i1 y z
  · exact o.i2 y z
/-- the row with one letter changed -/
def bent (p : List Int × List Int) (d : Nat) (x : Int) : List Int := (pre p (d + 1)).set d (1 + x % 3)
structure Unl (p q : List Int × List Int) (d : Nat) : Prop where
  ok : Lok q
  w : ∀ n, n < d → word p.1 p.2 n = word q.1 q.2 n
  d : word p.1 p.2 d ≠ word q.1 q.2 d
theorem unlike_ok {p : List Int × List Int} (o : Own p) {d : Nat} {x : Int} (hx : word p.1 p.2 d = some x) {q : List Int × List Int} (hq : Beh p q (d + 1)) (hd : d < 12) : Unl p (shortIn (bent p d x ++ q.1) q.2) d := by
  have hpl := pre_len p (d + 1)
  have hbl : (bent p d x).length = d + 1 := by unfold bent; rw [List.length_set, hpl]
  have hx3 : 1 ≤ x ∧ x ≤ 3 := by
    obtain ⟨y, hy, hm⟩ := word_some (a := p.1) o.ne d
    rw [hx] at hy
    cases hy
    rcases hm with z | z
    · exact o.i1 x z
    · exact o.i2 x z
  have hq1 := hq.l1
  have ol1 := o.l1
  have ok2 : Lok (bent p d x ++ q.1, q.2) := by
    refine ⟨hq.ok.ne, ?_, hq.ok.l2, fun i hi => ?_, hq.ok.i2⟩
    · show (bent p d x ++ q.1).length ≤ 900
      rw [List.length_append]
      omega
    · rcases List.mem_append.mp hi with z | z
      · unfold bent at z
        rcases List.mem_or_eq_of_mem_set z with z | z
        · exact pre_in o i z
        · rw [z]; omega
      · exact hq.ok.i1 i z
  have hw := (short_ok (a := bent p d x ++ q.1) hq.ok.ne).1
  refine ⟨short_lok ok2, fun n hn => ?_, ?_⟩
  · rw [hw, word_app, if_pos (by omega)]
    unfold bent
    rw [List.getElem?_set_ne (by omega), pre_get o.lok (by omega)]
  · rw [hw, word_app, if_pos (by omega), hx]
    unfold bent
    rw [List.getElem?_set_self (by omega)]
    intro e
    have e := Option.some.inj e
    omega
theorem Unl.most {p q : List Int × List Int} {d : Nat} (o : Lok p) (u : Unl p q d) : d < most p q := by
  refine Classical.byContradiction fun no => ?_
  have := agree o.ne u.ok.ne (a := p.1) (a' := q.1) fun n hn => u.w n (by unfold K01.most at no; omega)
  exact u.d (by rw [this])
theorem law5 (p : List Int × List Int) (o : Own p) (i n : Nat) (hn : n < 500000) (o0 o2 o3 o4 o5 o6 o7 o8 o9 o10 o11 o13 o16 o17 o18 o19 : Option T) (h : Hd) (bx : Box i n h) :
    WS (evSs P23 (sdrop 15 d_law.body) [o0, some (.ref i), o2, o3, o4, o5, o6, o7, o8, o9, o10, o11, some (las p), o13, some (tI p.1), some (tI p.2), o16, o17, o18, o19] h) DT := by
  have lok := o.lok
  have l1 := o.l1
  have l2 := o.l2
  have hp : 0 < p.2.length := List.length_pos_iff.mpr o.ne
  dsimp only [sdrop, d_law]
  have s1 : ∀ h, opSl h (.v (tI p.2)) none (some 1) = some (.v (tI (p.2.take 1))) := fun h => sl_take (i := 1) (by omega)
  have s2 : ∀ h, opSl h (.v (tI p.2)) (some 1) none = some (.v (tI (p.2.drop 1))) := fun h => sl_drop (i := 1) (by omega)
  have t1 : (p.2.take 1).length ≤ 5 := by rw [List.length_take]; omega
  have t2 : (p.2.drop 1).length ≤ 5 := by rw [List.length_drop]; omega
  have a1 : ∀ h, opB .add h (.v (tI p.1)) (.v (tI (p.2.take 1))) = some (.v (tI (p.1 ++ p.2.take 1))) := fun h => cat_I (by omega)
  have a2 : ∀ h, opB .add h (.v (tI (p.2.drop 1))) (.v (tI (p.2.take 1))) = some (.v (tI (p.2.drop 1 ++ p.2.take 1))) := fun h => cat_I (by omega)
  have oth : Lok (p.1 ++ p.2.take 1, p.2.drop 1 ++ p.2.take 1) := ⟨rot_ne o.ne, by show (p.1 ++ p.2.take 1).length ≤ 900; rw [List.length_append]; omega, by show (p.2.drop 1 ++ p.2.take 1).length ≤ 900; rw [List.length_append]; omega, fun x hx => by
    rcases List.mem_append.mp hx with z | z
    · exact o.i1 x z
    · exact o.i2 x (List.mem_of_mem_take z), fun x hx => o.i2 x (mem_rot.mp hx)⟩
  have woth : word (p.1 ++ p.2.take 1) (p.2.drop 1 ++ p.2.take 1) = word p.1 p.2 := word_turn o.ne (by omega)
  obtain ⟨q, eq⟩ : ∃ q : List Int × List Int, q = (p.1 ++ p.2.take 1, p.2.drop 1 ++ p.2.take 1) := ⟨_, rfl⟩
  rw [← eq] at oth
  have wq : word q.1 q.2 = word p.1 p.2 := by rw [eq]; exact woth
  with_reducible apply ss_consW
  repeat' (first | ((with_reducible apply w_slot); rfl) | (with_reducible apply w_non) | (with_reducible apply w_bl) | (with_reducible apply w_int) | (with_reducible apply w_str) | (with_reducible apply w_tup) | (with_reducible apply w_lst) | (with_reducible apply w_nil) | (with_reducible apply w_cons) | (with_reducible apply w_star) | (with_reducible apply w_bin) | (with_reducible apply w_cmp) | (with_reducible apply w_chain) | (with_reducible apply w_isN) | (with_reducible apply w_notN) | (with_reducible apply w_andW) | (with_reducible apply w_orW) | (with_reducible apply w_not) | (with_reducible apply w_neg) | (with_reducible apply w_ite) | (with_reducible apply w_f1) | (with_reducible apply w_f2) | (with_reducible apply w_isi) | (with_reducible apply w_ix) | (with_reducible apply w_slAll) | (with_reducible apply w_slL) | (with_reducible apply w_slU) | (with_reducible apply w_slLU) | (with_reducible apply w_pop0) | (with_reducible apply w_meth1) | (with_reducible apply w_lcA) | (with_reducible apply w_lsR1) | (with_reducible apply w_lsR2) | (with_reducible apply w_lsZ) | (with_reducible apply w_srtSet) | (with_reducible apply i_seqW) | (with_reducible apply i_rng1W) | (with_reducible apply i_rng2W) | (with_reducible apply i_enumW) | (with_reducible apply i_zipW) | (with_reducible apply s_exprW) | (with_reducible apply s_retW) | (with_reducible apply s_retNW) | (with_reducible apply s_asgW) | (with_reducible apply s_asgT) | (with_reducible apply s_parW) | (with_reducible apply s_iteW) | (with_reducible apply ss_nilW) | (with_reducible apply w_call) | (with_reducible apply WL.v) | (with_reducible apply WL.l) | ((with_reducible apply exW); (with_reducible first | exact s1 _ | exact s2 _ | exact a1 _ | exact a2 _)) | ((with_reducible apply exW); first | (with_reducible exact eq_i) | (with_reducible exact eq_I) | (with_reducible exact ne_I) | (with_reducible exact ne_i) | (with_reducible exact len_I) | (with_reducible exact sl_last) | (with_reducible exact sl_take (by omega)) | (with_reducible exact sl_drop (by omega)) | (with_reducible exact mod_I (by omega)) | (with_reducible exact div_I (by omega) (by omega)) | (with_reducible exact cat_I (by omega))) | ((with_reducible apply fewW); (focus ((show _ ≤ 16777216); simp; done))) | ((with_reducible apply exW2); rfl) | ((with_reducible apply exW); rfl) | (exfalso; revert hk; decide) | (exfalso; revert hk; simp; done) | intro hk)
  have eqT : las q = .tup [tI (p.1 ++ p.2.take 1), tI (p.2.drop 1 ++ p.2.take 1)] := by rw [eq] <;> rfl
  rw [← eqT]
  with_reducible apply ss_consW
  repeat' (first | ((with_reducible apply w_slot); rfl) | (with_reducible apply w_non) | (with_reducible apply w_bl) | (with_reducible apply w_int) | (with_reducible apply w_str) | (with_reducible apply w_tup) | (with_reducible apply w_lst) | (with_reducible apply w_nil) | (with_reducible apply w_cons) | (with_reducible apply w_star) | (with_reducible apply w_bin) | (with_reducible apply w_cmp) | (with_reducible apply w_chain) | (with_reducible apply w_isN) | (with_reducible apply w_notN) | (with_reducible apply w_andW) | (with_reducible apply w_orW) | (with_reducible apply w_not) | (with_reducible apply w_neg) | (with_reducible apply w_ite) | (with_reducible apply w_f1) | (with_reducible apply w_f2) | (with_reducible apply w_isi) | (with_reducible apply w_ix) | (with_reducible apply w_slAll) | (with_reducible apply w_slL) | (with_reducible apply w_slU) | (with_reducible apply w_slLU) | (with_reducible apply w_pop0) | (with_reducible apply w_meth1) | (with_reducible apply w_lcA) | (with_reducible apply w_lsR1) | (with_reducible apply w_lsR2) | (with_reducible apply w_lsZ) | (with_reducible apply w_srtSet) | (with_reducible apply i_seqW) | (with_reducible apply i_rng1W) | (with_reducible apply i_rng2W) | (with_reducible apply i_enumW) | (with_reducible apply i_zipW) | (with_reducible apply s_exprW) | (with_reducible apply s_retW) | (with_reducible apply s_retNW) | (with_reducible apply s_asgW) | (with_reducible apply s_asgT) | (with_reducible apply s_parW) | (with_reducible apply s_iteW) | (with_reducible apply ss_nilW) | (with_reducible apply w_call) | (with_reducible apply WL.v) | (with_reducible apply WL.l) | ((with_reducible apply exW); first | (with_reducible exact eq_i) | (with_reducible exact eq_I) | (with_reducible exact ne_I) | (with_reducible exact ne_i) | (with_reducible exact len_I) | (with_reducible exact sl_last) | (with_reducible exact sl_take (by omega)) | (with_reducible exact sl_drop (by omega)) | (with_reducible exact mod_I (by omega)) | (with_reducible exact div_I (by omega) (by omega)) | (with_reducible exact cat_I (by omega))) | ((with_reducible apply fewW); (focus ((show _ ≤ 16777216); simp; done))) | ((with_reducible apply exW2); rfl) | ((with_reducible apply exW); rfl) | (exfalso; revert hk; decide) | (exfalso; revert hk; simp; done) | intro hk)
  refine WE.imp (e_take 22 i n 12 (by omega) (by omega) (by omega) h bx) ?_
  rintro _ h1 ⟨d, rfl, d0, d1, bx1, kp1⟩
  repeat' (first | ((with_reducible apply w_slot); rfl) | (with_reducible apply w_non) | (with_reducible apply w_bl) | (with_reducible apply w_int) | (with_reducible apply w_str) | (with_reducible apply w_tup) | (with_reducible apply w_lst) | (with_reducible apply w_nil) | (with_reducible apply w_cons) | (with_reducible apply w_star) | (with_reducible apply w_bin) | (with_reducible apply w_cmp) | (with_reducible apply w_chain) | (with_reducible apply w_isN) | (with_reducible apply w_notN) | (with_reducible apply w_andW) | (with_reducible apply w_orW) | (with_reducible apply w_not) | (with_reducible apply w_neg) | (with_reducible apply w_ite) | (with_reducible apply w_f1) | (with_reducible apply w_f2) | (with_reducible apply w_isi) | (with_reducible apply w_ix) | (with_reducible apply w_slAll) | (with_reducible apply w_slL) | (with_reducible apply w_slU) | (with_reducible apply w_slLU) | (with_reducible apply w_pop0) | (with_reducible apply w_meth1) | (with_reducible apply w_lcA) | (with_reducible apply w_lsR1) | (with_reducible apply w_lsR2) | (with_reducible apply w_lsZ) | (with_reducible apply w_srtSet) | (with_reducible apply i_seqW) | (with_reducible apply i_rng1W) | (with_reducible apply i_rng2W) | (with_reducible apply i_enumW) | (with_reducible apply i_zipW) | (with_reducible apply s_exprW) | (with_reducible apply s_retW) | (with_reducible apply s_retNW) | (with_reducible apply s_asgW) | (with_reducible apply s_asgT) | (with_reducible apply s_parW) | (with_reducible apply s_iteW) | (with_reducible apply ss_nilW) | (with_reducible apply w_call) | (with_reducible apply WL.v) | (with_reducible apply WL.l) | ((with_reducible apply exW); first | (with_reducible exact eq_i) | (with_reducible exact eq_I) | (with_reducible exact ne_I) | (with_reducible exact ne_i) | (with_reducible exact len_I) | (with_reducible exact sl_last) | (with_reducible exact sl_take (by omega)) | (with_reducible exact sl_drop (by omega)) | (with_reducible exact mod_I (by omega)) | (with_reducible exact div_I (by omega) (by omega)) | (with_reducible exact cat_I (by omega))) | ((with_reducible apply fewW); (focus ((show _ ≤ 16777216); simp; done))) | ((with_reducible apply exW2); rfl) | ((with_reducible apply exW); rfl) | (exfalso; revert hk; decide) | (exfalso; revert hk; simp; done) | intro hk)
  have hd : d + 1 = ((d.toNat + 1 : Nat) : Int) := by omega
  have b1 : ∀ h, cl (16 + 7) "beginning" [las p, .int (d + 1)] h = .ok (tI (pre p (d.toNat + 1))) h := fun h => by rw [hd]; exact e_begin 16 p lok _ (by omega) h
  have li : ∀ (l : List Int) (h : Hd), op1 .list h (.v (tI l)) = some (.l (ti l)) := fun l h => rfl
  with_reducible apply ss_consW
  repeat' (first | ((with_reducible apply w_slot); rfl) | (with_reducible apply w_non) | (with_reducible apply w_bl) | (with_reducible apply w_int) | (with_reducible apply w_str) | (with_reducible apply w_tup) | (with_reducible apply w_lst) | (with_reducible apply w_nil) | (with_reducible apply w_cons) | (with_reducible apply w_star) | (with_reducible apply w_bin) | (with_reducible apply w_cmp) | (with_reducible apply w_chain) | (with_reducible apply w_isN) | (with_reducible apply w_notN) | (with_reducible apply w_andW) | (with_reducible apply w_orW) | (with_reducible apply w_not) | (with_reducible apply w_neg) | (with_reducible apply w_ite) | (with_reducible apply w_f1) | (with_reducible apply w_f2) | (with_reducible apply w_isi) | (with_reducible apply w_ix) | (with_reducible apply w_slAll) | (with_reducible apply w_slL) | (with_reducible apply w_slU) | (with_reducible apply w_slLU) | (with_reducible apply w_pop0) | (with_reducible apply w_meth1) | (with_reducible apply w_lcA) | (with_reducible apply w_lsR1) | (with_reducible apply w_lsR2) | (with_reducible apply w_lsZ) | (with_reducible apply w_srtSet) | (with_reducible apply i_seqW) | (with_reducible apply i_rng1W) | (with_reducible apply i_rng2W) | (with_reducible apply i_enumW) | (with_reducible apply i_zipW) | (with_reducible apply s_exprW) | (with_reducible apply s_retW) | (with_reducible apply s_retNW) | (with_reducible apply s_asgW) | (with_reducible apply s_asgT) | (with_reducible apply s_parW) | (with_reducible apply s_iteW) | (with_reducible apply ss_nilW) | (with_reducible apply w_call) | (with_reducible apply WL.v) | (with_reducible apply WL.l) | ((with_reducible apply WE.cl); (exact b1 _)) | ((with_reducible apply exW); (with_reducible exact li _ _)) | ((with_reducible apply exW); first | (with_reducible exact eq_i) | (with_reducible exact eq_I) | (with_reducible exact ne_I) | (with_reducible exact ne_i) | (with_reducible exact len_I) | (with_reducible exact sl_last) | (with_reducible exact sl_take (by omega)) | (with_reducible exact sl_drop (by omega)) | (with_reducible exact mod_I (by omega)) | (with_reducible exact div_I (by omega) (by omega)) | (with_reducible exact cat_I (by omega))) | ((with_reducible apply fewW); (focus ((show _ ≤ 16777216); simp; done))) | ((with_reducible apply exW2); rfl) | ((with_reducible apply exW); rfl) | (exfalso; revert hk; decide) | (exfalso; revert hk; simp; done) | intro hk)
  obtain ⟨x, hx, _⟩ := word_some (a := p.1) o.ne d.toNat
  have gt : (h1.new (.lst (ti (pre p (d.toNat + 1))))).get h1.next = some (.lst (ti (pre p (d.toNat + 1)))) := get_new_same
  show WS (evSs P23 _ [o0, some (.ref i), o2, o3, o4, o5, o6, o7, some (las q), some (.int d), some (.ref h1.next), o11, some (las p), o13, some (tI p.1), some (tI p.2), o16, o17, o18, o19] (h1.new (.lst (ti (pre p (d.toNat + 1)))))) DT
  generalize h1.new (.lst (ti (pre p (d.toNat + 1)))) = h2 at gt
  generalize h1.next = m at gt
  have hx1 : opIx h2 (.v (.ref m)) (.v (.int d)) = some (.v (.int x)) := ix_ref gt (by rw [atI_nat _ _ d0, ti_get, pre_get lok (by omega), hx] <;> rfl)
  have hix : L2.ixN (ti (pre p (d.toNat + 1))).length d = some d.toNat := by
    unfold L2.ixN
    rw [if_pos d0, if_pos (by rw [ti_length, pre_len]; omega)]
  with_reducible apply ss_consW
  repeat' (first | ((with_reducible apply w_slot); rfl) | (with_reducible apply w_non) | (with_reducible apply w_bl) | (with_reducible apply w_int) | (with_reducible apply w_str) | (with_reducible apply w_tup) | (with_reducible apply w_lst) | (with_reducible apply w_nil) | (with_reducible apply w_cons) | (with_reducible apply w_star) | (with_reducible apply w_bin) | (with_reducible apply w_cmp) | (with_reducible apply w_chain) | (with_reducible apply w_isN) | (with_reducible apply w_notN) | (with_reducible apply w_andW) | (with_reducible apply w_orW) | (with_reducible apply w_not) | (with_reducible apply w_neg) | (with_reducible apply w_ite) | (with_reducible apply w_f1) | (with_reducible apply w_f2) | (with_reducible apply w_isi) | (with_reducible apply w_ix) | (with_reducible apply w_slAll) | (with_reducible apply w_slL) | (with_reducible apply w_slU) | (with_reducible apply w_slLU) | (with_reducible apply w_pop0) | (with_reducible apply w_meth1) | (with_reducible apply w_lcA) | (with_reducible apply w_lsR1) | (with_reducible apply w_lsR2) | (with_reducible apply w_lsZ) | (with_reducible apply w_srtSet) | (with_reducible apply i_seqW) | (with_reducible apply i_rng1W) | (with_reducible apply i_rng2W) | (with_reducible apply i_enumW) | (with_reducible apply i_zipW) | (with_reducible apply s_exprW) | (with_reducible apply s_retW) | (with_reducible apply s_retNW) | (with_reducible apply s_asgW) | (with_reducible apply s_asgT) | (with_reducible apply s_parW) | (with_reducible apply s_iteW) | (with_reducible apply ss_nilW) | (with_reducible apply w_call) | (with_reducible apply WL.v) | (with_reducible apply WL.l) | (with_reducible apply s_setixW) | ((with_reducible apply exW); (with_reducible exact hx1)) | ((with_reducible apply exW); first | (with_reducible exact eq_i) | (with_reducible exact eq_I) | (with_reducible exact ne_I) | (with_reducible exact ne_i) | (with_reducible exact len_I) | (with_reducible exact sl_last) | (with_reducible exact sl_take (by omega)) | (with_reducible exact sl_drop (by omega)) | (with_reducible exact mod_I (by omega)) | (with_reducible exact div_I (by omega) (by omega)) | (with_reducible exact cat_I (by omega))) | ((with_reducible apply fewW); (focus ((show _ ≤ 16777216); simp; done))) | ((with_reducible apply exW2); rfl) | ((with_reducible apply exW); rfl) | (exfalso; revert hk; decide) | (exfalso; revert hk; simp; done) | intro hk)
  refine ⟨m, rfl, ?_⟩
  repeat' (first | ((with_reducible apply w_slot); rfl) | (with_reducible apply w_non) | (with_reducible apply w_bl) | (with_reducible apply w_int) | (with_reducible apply w_str) | (with_reducible apply w_tup) | (with_reducible apply w_lst) | (with_reducible apply w_nil) | (with_reducible apply w_cons) | (with_reducible apply w_star) | (with_reducible apply w_bin) | (with_reducible apply w_cmp) | (with_reducible apply w_chain) | (with_reducible apply w_isN) | (with_reducible apply w_notN) | (with_reducible apply w_andW) | (with_reducible apply w_orW) | (with_reducible apply w_not) | (with_reducible apply w_neg) | (with_reducible apply w_ite) | (with_reducible apply w_f1) | (with_reducible apply w_f2) | (with_reducible apply w_isi) | (with_reducible apply w_ix) | (with_reducible apply w_slAll) | (with_reducible apply w_slL) | (with_reducible apply w_slU) | (with_reducible apply w_slLU) | (with_reducible apply w_pop0) | (with_reducible apply w_meth1) | (with_reducible apply w_lcA) | (with_reducible apply w_lsR1) | (with_reducible apply w_lsR2) | (with_reducible apply w_lsZ) | (with_reducible apply w_srtSet) | (with_reducible apply i_seqW) | (with_reducible apply i_rng1W) | (with_reducible apply i_rng2W) | (with_reducible apply i_enumW) | (with_reducible apply i_zipW) | (with_reducible apply s_exprW) | (with_reducible apply s_retW) | (with_reducible apply s_retNW) | (with_reducible apply s_asgW) | (with_reducible apply s_asgT) | (with_reducible apply s_parW) | (with_reducible apply s_iteW) | (with_reducible apply ss_nilW) | (with_reducible apply w_call) | (with_reducible apply WL.v) | (with_reducible apply WL.l) | ((with_reducible apply exW); first | (with_reducible exact eq_i) | (with_reducible exact eq_I) | (with_reducible exact ne_I) | (with_reducible exact ne_i) | (with_reducible exact len_I) | (with_reducible exact sl_last) | (with_reducible exact sl_take (by omega)) | (with_reducible exact sl_drop (by omega)) | (with_reducible exact mod_I (by omega)) | (with_reducible exact div_I (by omega) (by omega)) | (with_reducible exact cat_I (by omega))) | ((with_reducible apply fewW); (focus ((show _ ≤ 16777216); simp; done))) | ((with_reducible apply exW2); rfl) | ((with_reducible apply exW); rfl) | (exfalso; revert hk; decide) | (exfalso; revert hk; simp; done) | intro hk)
  refine ⟨d, _, d.toNat, rfl, gt, hix, ?_⟩
  have gt2 : (h2.put m (.lst ((ti (pre p (d.toNat + 1))).set d.toNat (.int (1 + x % 3))))).get m = some (.lst (ti (bent p d.toNat x))) := by
    rw [get_put_same gt]
    unfold bent ti
    rw [List.map_set]
  show WS (evSs P23 _ _ (h2.put m (.lst ((ti (pre p (d.toNat + 1))).set d.toNat (.int (1 + x % 3)))))) DT
  generalize h2.put m (.lst ((ti (pre p (d.toNat + 1))).set d.toNat (.int (1 + x % 3)))) = h3 at gt2
  have hbeh := behind_ok lok (d + 1) (by omega)
  rw [show (d + 1).toNat = d.toNat + 1 by omega] at hbeh
  have mv : ∀ h, cl (16 + 7) "moved_on" [las p, .int (d + 1)] h = .ok (las (behind p (d + 1))) h := fun h => e_moved 16 p lok (d + 1) (by omega) (by omega) h
  generalize behind p (d + 1) = b at hbeh mv
  have un := unlike_ok o hx hbeh (by omega)
  have hbl : (bent p d.toNat x).length = d.toNat + 1 := by unfold bent; rw [List.length_set, pre_len]
  have hx3 : 1 ≤ 1 + x % 3 ∧ 1 + x % 3 ≤ 3 := by omega
  have hbi : ∀ y ∈ bent p d.toNat x, 1 ≤ y ∧ y ≤ 3 := fun y hy => by
    unfold bent at hy
    rcases List.mem_or_eq_of_mem_set hy with z | z
    · exact pre_in o y z
    · rw [z]; exact hx3
  have hb1 := hbeh.l1
  have pa : ∀ h, cl (16 + 7) "put_ahead" [tI (bent p d.toNat x), las b] h = .ok (las (shortIn (bent p d.toNat x ++ b.1) b.2)) h := fun h => e_putah 16 _ hbi (by omega) b hbeh.ok (by omega) h
  generalize shortIn (bent p d.toNat x ++ b.1) b.2 = u at un pa
  have htu : op1 .tuple h3 (.v (.ref m)) = some (.v (tI (bent p d.toNat x))) := by
    show (items h3 (.v (.ref m))).map _ = _
    rw [items_ref gt2] <;> rfl
  with_reducible apply ss_consW
  repeat' (first | ((with_reducible apply w_slot); rfl) | (with_reducible apply w_non) | (with_reducible apply w_bl) | (with_reducible apply w_int) | (with_reducible apply w_str) | (with_reducible apply w_tup) | (with_reducible apply w_lst) | (with_reducible apply w_nil) | (with_reducible apply w_cons) | (with_reducible apply w_star) | (with_reducible apply w_bin) | (with_reducible apply w_cmp) | (with_reducible apply w_chain) | (with_reducible apply w_isN) | (with_reducible apply w_notN) | (with_reducible apply w_andW) | (with_reducible apply w_orW) | (with_reducible apply w_not) | (with_reducible apply w_neg) | (with_reducible apply w_ite) | (with_reducible apply w_f1) | (with_reducible apply w_f2) | (with_reducible apply w_isi) | (with_reducible apply w_ix) | (with_reducible apply w_slAll) | (with_reducible apply w_slL) | (with_reducible apply w_slU) | (with_reducible apply w_slLU) | (with_reducible apply w_pop0) | (with_reducible apply w_meth1) | (with_reducible apply w_lcA) | (with_reducible apply w_lsR1) | (with_reducible apply w_lsR2) | (with_reducible apply w_lsZ) | (with_reducible apply w_srtSet) | (with_reducible apply i_seqW) | (with_reducible apply i_rng1W) | (with_reducible apply i_rng2W) | (with_reducible apply i_enumW) | (with_reducible apply i_zipW) | (with_reducible apply s_exprW) | (with_reducible apply s_retW) | (with_reducible apply s_retNW) | (with_reducible apply s_asgW) | (with_reducible apply s_asgT) | (with_reducible apply s_parW) | (with_reducible apply s_iteW) | (with_reducible apply ss_nilW) | (with_reducible apply w_call) | (with_reducible apply WL.v) | (with_reducible apply WL.l) | ((with_reducible apply exW); (with_reducible exact htu)) | ((with_reducible apply WE.cl); (exact mv _)) | ((with_reducible apply WE.cl); (exact pa _)) | ((with_reducible apply exW); first | (with_reducible exact eq_i) | (with_reducible exact eq_I) | (with_reducible exact ne_I) | (with_reducible exact ne_i) | (with_reducible exact len_I) | (with_reducible exact sl_last) | (with_reducible exact sl_take (by omega)) | (with_reducible exact sl_drop (by omega)) | (with_reducible exact mod_I (by omega)) | (with_reducible exact div_I (by omega) (by omega)) | (with_reducible exact cat_I (by omega))) | ((with_reducible apply fewW); (focus ((show _ ≤ 16777216); simp; done))) | ((with_reducible apply exW2); rfl) | ((with_reducible apply exW); rfl) | (exfalso; revert hk; decide) | (exfalso; revert hk; simp; done) | intro hk)
  have c1 : ∀ h, cl (16 + 7) "same_endless" [las p, las q] h = .ok (.bl true) h := fun h => by
    rw [e_same 16 p q lok oth h, decide_eq_true (canon lok.ne oth.ne wq.symm)]
  have c2 : ∀ h, cl (16 + 7) "first_apart" [las p, las q] h = .ok .non h := fun h => e_apart 16 p q lok oth .non rfl (.inl ⟨rfl, fun n _ => by rw [wq]⟩) h
  have c3 : ∀ h, cl (16 + 7) "first_apart" [las p, las u] h = .ok (.int (d + 1)) h := fun h => e_apart 16 p u lok un.ok (.int (d + 1)) rfl (.inr ⟨d.toNat, un.most lok, by rw [hd] <;> rfl, un.d, un.w⟩) h
  have c4 : ∀ h, cl (16 + 7) "same_endless" [las u, las p] h = .ok (.bl false) h := fun h => by
    rw [e_same 16 u p un.ok lok h, decide_eq_false fun e => ?_]
    have w1 := (short_ok (a := u.1) un.ok.ne).1
    have w2 := (short_ok (a := p.1) lok.ne).1
    rw [e] at w1
    exact un.d (by rw [← w2, w1])
  have c5 : ∀ h, cl (16 + 7) "first_apart" [las u, las u] h = .ok .non h := fun h => e_apart 16 u u un.ok un.ok .non rfl (.inl ⟨rfl, fun n _ => rfl⟩) h
  with_reducible apply ss_consW
  repeat' (first | ((with_reducible apply w_slot); rfl) | (with_reducible apply w_non) | (with_reducible apply w_bl) | (with_reducible apply w_int) | (with_reducible apply w_str) | (with_reducible apply w_tup) | (with_reducible apply w_lst) | (with_reducible apply w_nil) | (with_reducible apply w_cons) | (with_reducible apply w_star) | (with_reducible apply w_bin) | (with_reducible apply w_cmp) | (with_reducible apply w_chain) | (with_reducible apply w_isN) | (with_reducible apply w_notN) | (with_reducible apply w_andW) | (with_reducible apply w_orW) | (with_reducible apply w_not) | (with_reducible apply w_neg) | (with_reducible apply w_ite) | (with_reducible apply w_f1) | (with_reducible apply w_f2) | (with_reducible apply w_isi) | (with_reducible apply w_ix) | (with_reducible apply w_slAll) | (with_reducible apply w_slL) | (with_reducible apply w_slU) | (with_reducible apply w_slLU) | (with_reducible apply w_pop0) | (with_reducible apply w_meth1) | (with_reducible apply w_lcA) | (with_reducible apply w_lsR1) | (with_reducible apply w_lsR2) | (with_reducible apply w_lsZ) | (with_reducible apply w_srtSet) | (with_reducible apply i_seqW) | (with_reducible apply i_rng1W) | (with_reducible apply i_rng2W) | (with_reducible apply i_enumW) | (with_reducible apply i_zipW) | (with_reducible apply s_exprW) | (with_reducible apply s_retW) | (with_reducible apply s_retNW) | (with_reducible apply s_asgW) | (with_reducible apply s_asgT) | (with_reducible apply s_parW) | (with_reducible apply s_iteW) | (with_reducible apply ss_nilW) | (with_reducible apply w_call) | (with_reducible apply WL.v) | (with_reducible apply WL.l) | ((with_reducible apply WE.cl); (exact c1 _)) | ((with_reducible apply WE.cl); (exact c2 _)) | ((with_reducible apply WE.cl); (exact c3 _)) | ((with_reducible apply WE.cl); (exact c4 _)) | ((with_reducible apply WE.cl); (exact c5 _)) | ((with_reducible apply exW); first | (with_reducible exact eq_i) | (with_reducible exact eq_I) | (with_reducible exact ne_I) | (with_reducible exact ne_i) | (with_reducible exact len_I) | (with_reducible exact sl_last) | (with_reducible exact sl_take (by omega)) | (with_reducible exact sl_drop (by omega)) | (with_reducible exact mod_I (by omega)) | (with_reducible exact div_I (by omega) (by omega)) | (with_reducible exact cat_I (by omega))) | ((with_reducible apply fewW); (focus ((show _ ≤ 16777216); simp; done))) | ((with_reducible apply exW2); rfl) | ((with_reducible apply exW); rfl) | (exfalso; revert hk; decide) | (exfalso; revert hk; simp; done) | intro hk)
  with_reducible apply ss_consW
  repeat' (first | ((with_reducible apply w_slot); rfl) | (with_reducible apply w_non) | (with_reducible apply w_bl) | (with_reducible apply w_int) | (with_reducible apply w_str) | (with_reducible apply w_tup) | (with_reducible apply w_lst) | (with_reducible apply w_nil) | (with_reducible apply w_cons) | (with_reducible apply w_star) | (with_reducible apply w_bin) | (with_reducible apply w_cmp) | (with_reducible apply w_chain) | (with_reducible apply w_isN) | (with_reducible apply w_notN) | (with_reducible apply w_andW) | (with_reducible apply w_orW) | (with_reducible apply w_not) | (with_reducible apply w_neg) | (with_reducible apply w_ite) | (with_reducible apply w_f1) | (with_reducible apply w_f2) | (with_reducible apply w_isi) | (with_reducible apply w_ix) | (with_reducible apply w_slAll) | (with_reducible apply w_slL) | (with_reducible apply w_slU) | (with_reducible apply w_slLU) | (with_reducible apply w_pop0) | (with_reducible apply w_meth1) | (with_reducible apply w_lcA) | (with_reducible apply w_lsR1) | (with_reducible apply w_lsR2) | (with_reducible apply w_lsZ) | (with_reducible apply w_srtSet) | (with_reducible apply i_seqW) | (with_reducible apply i_rng1W) | (with_reducible apply i_rng2W) | (with_reducible apply i_enumW) | (with_reducible apply i_zipW) | (with_reducible apply s_exprW) | (with_reducible apply s_retW) | (with_reducible apply s_retNW) | (with_reducible apply s_asgW) | (with_reducible apply s_asgT) | (with_reducible apply s_parW) | (with_reducible apply s_iteW) | (with_reducible apply ss_nilW) | (with_reducible apply w_call) | (with_reducible apply WL.v) | (with_reducible apply WL.l) | ((with_reducible apply exW); first | (with_reducible exact eq_i) | (with_reducible exact eq_I) | (with_reducible exact ne_I) | (with_reducible exact ne_i) | (with_reducible exact len_I) | (with_reducible exact sl_last) | (with_reducible exact sl_take (by omega)) | (with_reducible exact sl_drop (by omega)) | (with_reducible exact mod_I (by omega)) | (with_reducible exact div_I (by omega) (by omega)) | (with_reducible exact cat_I (by omega))) | ((with_reducible apply fewW); (focus ((show _ ≤ 16777216); simp; done))) | ((with_reducible apply exW2); rfl) | ((with_reducible apply exW); rfl) | (exfalso; revert hk; decide) | (exfalso; revert hk; simp; done) | intro hk)
  refine WE.cl (e_lsamer 5 17 [.bl true, .non, .int (d + 1), .bl false, .non] rfl (by show max 1 (max 1 (max 1 (max 1 (max 1 0)))) ≤ 5; omega) (by show max 5 (max 0 (max 0 (max 0 (max 0 (max 0 0))))) ≤ 5000; omega) h3.next (h3.next + 1) _ ?_ ?_) ?_
  · rw [get_new_ne (by show h3.next < h3.next + 1; omega)]
    exact get_new_same
  · exact get_new_same
  · rfl
end K01
end

section
set_option Elab.async false
set_option linter.all false
set_option maxRecDepth 100000
set_option maxHeartbeats 2000000
namespace K01
open PySem Pv Las
/-! ### a list against the empty one -/
theorem dats_ti (f : Nat → Option PyData) : ∀ l : List Int, T.dats f (ti l) = some (l.map PyData.int)
  | [] => rfl
  | i :: l => by
    show (match (T.int i).dat f, T.dats f (ti l) with | some d, some ds => some (d :: ds) | _, _ => none) = _
    rw [dats_ti f l] <;> rfl
theorem lay_ints : ∀ l : List Int, PyData.canLayAll0 (l.map PyData.int) = true
  | [] => rfl
  | i :: l => by show (true && PyData.canLayAll0 (l.map PyData.int)) = true; rw [lay_ints l] <;> rfl
theorem dep_ints : ∀ l : List Int, PyData.depthAll (l.map PyData.int) ≤ 3
  | [] => by simp [PyData.depthAll]
  | i :: l => by
    have := dep_ints l
    simp only [List.map_cons, PyData.depthAll, PyData.depth]
    omega
theorem shaped_ints (l : List Int) : SeqAt.shaped (.list (l.map PyData.int)) = true := by
  unfold SeqAt.shaped
  have h1 : (PyData.list (l.map PyData.int)).canLay0 = true := lay_ints l
  rw [h1, Bool.true_and]
  have := dep_ints l
  refine decide_eq_true ?_
  simp only [PyData.depth]
  omega
theorem dat_L {h : Hd} {l : List Int} : dat h (.l (ti l)) = some (.list (l.map PyData.int)) := by
  show (T.dats (refD h 6) (ti l)).map PyData.list = _
  rw [dats_ti] <;> rfl
theorem dat_R {h : Hd} {l : List Int} {i : Nat} (e : h.get i = some (.lst (ti l))) : dat h (.v (.ref i)) = some (.list (l.map PyData.int)) := by
  show (match h.get i with | some o => (T.dats (refD h 5) o.items).map PyData.list | none => none) = _
  rw [e]
  show (T.dats (refD h 5) (ti l)).map PyData.list = _
  rw [dats_ti] <;> rfl
theorem ne_nil {h : Hd} {x : VV} {l : List Int} (e : dat h x = some (.list (l.map PyData.int))) : opC .ne h x (.l []) = some (!decide (l = [])) := by
  show (eqD h x (.l [])).map not = _
  unfold eqD
  rw [e, show dat h (.l []) = some (.list (([] : List Int).map PyData.int)) from dat_L (l := [])]
  simp only [shaped_ints, Bool.and_self, if_true]
  cases l <;> rfl
theorem eq_nil {h : Hd} {x : VV} {l : List Int} (e : dat h x = some (.list (l.map PyData.int))) : opC .eq h x (.l []) = some (decide (l = [])) := by
  show eqD h x (.l []) = _
  unfold eqD
  rw [e, show dat h (.l []) = some (.list (([] : List Int).map PyData.int)) from dat_L (l := [])]
  simp only [shaped_ints, Bool.and_self, if_true]
  cases l <;> rfl
theorem ne_same {h : Hd} {t : T} (ht : t.it = true) (hd : t.dep ≤ 60) : opC .ne h (.v t) (.v t) = some false := by
  obtain ⟨k, e, hk⟩ := eqD_it (h := h) ht ht hd hd
  show (eqD h (.v t) (.v t)).map not = _
  rw [e, hk.mpr rfl] <;> rfl
theorem behind_len {p : List Int × List Int} (ok : Lok p) {m : Int} (h : (p.1.length : Int) < m) : (behind p m).1 = [] ∧ (behind p m).2.length ≤ p.2.length := by
  unfold behind
  rw [if_neg (by omega), short_nil]
  have hne := rot_ne (b := p.2) (r := ((m - (p.1.length : Int)) % (p.2.length : Int)).toNat) ok.ne
  refine ⟨rfl, ?_⟩
  show (root _).length ≤ _
  rw [root_len hne]
  have h2 := (root_ok hne).2.1
  rw [List.length_append, List.length_drop, List.length_take] at h2
  omega
theorem law4 (p : List Int × List Int) (o : Own p) (i n : Nat) (hn : n < 400000) (far : Int) (f0 : 1000000000000000000 ≤ far) (f1 : far ≤ 100000000000000000000000000000) (o0 o3 o4 o5 o6 o7 o8 o9 o10 o11 o13 o16 o17 o18 o19 : Option T) (h : Hd) (bx : Box i n h) :
    WS (evSs P23 (sdrop 12 d_law.body) [o0, some (.ref i), some (.int far), o3, o4, o5, o6, o7, o8, o9, o10, o11, some (las p), o13, some (tI p.1), some (tI p.2), o16, o17, o18, o19] h) DT := by
  have lok := o.lok
  have l1 := o.l1
  have l2 := o.l2
  have last := law5 p o i
  dsimp only [sdrop, d_law] at last ⊢
  have hfa : (p.1.length : Int) < far := by omega
  have hbeh := behind_ok lok far (by omega)
  have hset := behind_sets lok hfa
  have hbl := behind_len lok hfa
  have mv : ∀ h, cl (16 + 7) "moved_on" [las p, .int far] h = .ok (las (behind p far)) h := fun h => e_moved 16 p lok far (by omega) (by omega) h
  generalize behind p far = b at hbeh mv hset hbl
  with_reducible apply ss_consW
  repeat' (first | ((with_reducible apply w_slot); rfl) | (with_reducible apply w_non) | (with_reducible apply w_bl) | (with_reducible apply w_int) | (with_reducible apply w_str) | (with_reducible apply w_tup) | (with_reducible apply w_lst) | (with_reducible apply w_nil) | (with_reducible apply w_cons) | (with_reducible apply w_star) | (with_reducible apply w_bin) | (with_reducible apply w_cmp) | (with_reducible apply w_chain) | (with_reducible apply w_isN) | (with_reducible apply w_notN) | (with_reducible apply w_andW) | (with_reducible apply w_orW) | (with_reducible apply w_not) | (with_reducible apply w_neg) | (with_reducible apply w_ite) | (with_reducible apply w_f1) | (with_reducible apply w_f2) | (with_reducible apply w_isi) | (with_reducible apply w_ix) | (with_reducible apply w_slAll) | (with_reducible apply w_slL) | (with_reducible apply w_slU) | (with_reducible apply w_slLU) | (with_reducible apply w_pop0) | (with_reducible apply w_meth1) | (with_reducible apply w_lcA) | (with_reducible apply w_lsR1) | (with_reducible apply w_lsR2) | (with_reducible apply w_lsZ) | (with_reducible apply w_srtSet) | (with_reducible apply i_seqW) | (with_reducible apply i_rng1W) | (with_reducible apply i_rng2W) | (with_reducible apply i_enumW) | (with_reducible apply i_zipW) | (with_reducible apply s_exprW) | (with_reducible apply s_retW) | (with_reducible apply s_retNW) | (with_reducible apply s_asgW) | (with_reducible apply s_asgT) | (with_reducible apply s_parW) | (with_reducible apply s_iteW) | (with_reducible apply ss_nilW) | (with_reducible apply w_call) | (with_reducible apply WL.v) | (with_reducible apply WL.l) | ((with_reducible apply WE.cl); (exact mv _)) | ((with_reducible apply exW); first | (with_reducible exact eq_i) | (with_reducible exact eq_I) | (with_reducible exact ne_I) | (with_reducible exact ne_i) | (with_reducible exact len_I) | (with_reducible exact sl_last) | (with_reducible exact sl_take (by omega)) | (with_reducible exact sl_drop (by omega)) | (with_reducible exact mod_I (by omega)) | (with_reducible exact div_I (by omega) (by omega)) | (with_reducible exact cat_I (by omega))) | ((with_reducible apply fewW); (focus ((show _ ≤ 16777216); simp; done))) | ((with_reducible apply exW2); rfl) | ((with_reducible apply exW); rfl) | (exfalso; revert hk; decide) | (exfalso; revert hk; simp; done) | intro hk)
  have c1 : ∀ h, cl (16 + 7) "beginning" [las b, .int 12] h = .ok (tI (pre b 12)) h := fun h => e_begin 16 b hbeh.ok 12 (by omega) h
  have c2 : ∀ h, cl (16 + 7) "is_short" [las b] h = .ok (.bl true) h := fun h => by rw [e_isshort 16 b hbeh.ok h, decide_eq_true hbeh.s]
  have ok0 : Lok ([], p.2) := ⟨lok.ne, Nat.zero_le _, lok.l2, fun x hx => (by cases hx), lok.i2⟩
  have c3 : ∀ h, cl (16 + 7) "put_ahead" [tI p.1, .tup [.tup [], tI p.2]] h = .ok (las (shortIn p.1 p.2)) h := fun h => by
    have := e_putah 16 p.1 o.i1 (by omega) ([], p.2) ok0 (Nat.zero_le _) h
    rw [List.append_nil] at this
    exact this
  have c4 : ∀ h, cl (16 + 7) "lasso_short" [las p] h = .ok (las (shortIn p.1 p.2)) h := fun h => e_lshort 16 p lok h
  with_reducible apply ss_consW
  repeat' (first | ((with_reducible apply w_slot); rfl) | (with_reducible apply w_non) | (with_reducible apply w_bl) | (with_reducible apply w_int) | (with_reducible apply w_str) | (with_reducible apply w_tup) | (with_reducible apply w_lst) | (with_reducible apply w_nil) | (with_reducible apply w_cons) | (with_reducible apply w_star) | (with_reducible apply w_bin) | (with_reducible apply w_cmp) | (with_reducible apply w_chain) | (with_reducible apply w_isN) | (with_reducible apply w_notN) | (with_reducible apply w_andW) | (with_reducible apply w_orW) | (with_reducible apply w_not) | (with_reducible apply w_neg) | (with_reducible apply w_ite) | (with_reducible apply w_f1) | (with_reducible apply w_f2) | (with_reducible apply w_isi) | (with_reducible apply w_ix) | (with_reducible apply w_slAll) | (with_reducible apply w_slL) | (with_reducible apply w_slU) | (with_reducible apply w_slLU) | (with_reducible apply w_pop0) | (with_reducible apply w_meth1) | (with_reducible apply w_lcA) | (with_reducible apply w_lsR1) | (with_reducible apply w_lsR2) | (with_reducible apply w_lsZ) | (with_reducible apply w_srtSet) | (with_reducible apply i_seqW) | (with_reducible apply i_rng1W) | (with_reducible apply i_rng2W) | (with_reducible apply i_enumW) | (with_reducible apply i_zipW) | (with_reducible apply s_exprW) | (with_reducible apply s_retW) | (with_reducible apply s_retNW) | (with_reducible apply s_asgW) | (with_reducible apply s_asgT) | (with_reducible apply s_parW) | (with_reducible apply s_iteW) | (with_reducible apply ss_nilW) | (with_reducible apply w_call) | (with_reducible apply WL.v) | (with_reducible apply WL.l) | ((with_reducible apply WE.cl); (exact c1 _)) | ((with_reducible apply WE.cl); (exact c2 _)) | ((with_reducible apply WE.cl); (exact c3 _)) | ((with_reducible apply exW); first | (with_reducible exact eq_i) | (with_reducible exact eq_I) | (with_reducible exact ne_I) | (with_reducible exact ne_i) | (with_reducible exact len_I) | (with_reducible exact sl_last) | (with_reducible exact sl_take (by omega)) | (with_reducible exact sl_drop (by omega)) | (with_reducible exact mod_I (by omega)) | (with_reducible exact div_I (by omega) (by omega)) | (with_reducible exact cat_I (by omega))) | ((with_reducible apply fewW); (focus ((show _ ≤ 16777216); simp; done))) | ((with_reducible apply exW2); rfl) | ((with_reducible apply exW); rfl) | (exfalso; revert hk; decide) | (exfalso; revert hk; simp; done) | intro hk)
  refine ⟨1, 13, rfl, rfl, rfl, List.range 12, fun j : Nat => .int (1 + (j : Int)), fun j => some (.int ((word p.1 p.2 (far.toNat + j)).getD 0)), fix_rng, by show 12 < 100000; omega, by show 100000 ≤ 16777216; omega, fun j hj => ⟨_, rfl, c_nilW ⟨fun _ => ?_, fun z => by cases z⟩⟩, ?_⟩
  · have hj := List.mem_range.mp hj
    obtain ⟨y, hy⟩ : ∃ y : Int, y = far + (1 + (j : Nat)) := ⟨_, rfl⟩
    have ha : ∀ h, opB .add h (.v (.int far)) (.v (.int (1 + (j : Int)))) = some (.v (.int y)) := fun h => by rw [hy]; rfl
    obtain ⟨x, hx, _⟩ := e_letterAt 16 p lok y (by omega) (by omega) h
    have cx : ∀ h, cl (16 + 7) "letter_at" [las p, .int y] h = .ok (.int x) h := fun h => by
      obtain ⟨x', hx', e⟩ := e_letterAt 16 p lok y (by omega) (by omega) h
      rw [hx] at hx'
      cases hx'
      exact e
    rw [show (y - 1).toNat = far.toNat + j by omega] at hx
    repeat' (first | ((with_reducible apply w_slot); rfl) | (with_reducible apply w_non) | (with_reducible apply w_bl) | (with_reducible apply w_int) | (with_reducible apply w_str) | (with_reducible apply w_tup) | (with_reducible apply w_lst) | (with_reducible apply w_nil) | (with_reducible apply w_cons) | (with_reducible apply w_star) | (with_reducible apply w_bin) | (with_reducible apply w_cmp) | (with_reducible apply w_chain) | (with_reducible apply w_isN) | (with_reducible apply w_notN) | (with_reducible apply w_andW) | (with_reducible apply w_orW) | (with_reducible apply w_not) | (with_reducible apply w_neg) | (with_reducible apply w_ite) | (with_reducible apply w_f1) | (with_reducible apply w_f2) | (with_reducible apply w_isi) | (with_reducible apply w_ix) | (with_reducible apply w_slAll) | (with_reducible apply w_slL) | (with_reducible apply w_slU) | (with_reducible apply w_slLU) | (with_reducible apply w_pop0) | (with_reducible apply w_meth1) | (with_reducible apply w_lcA) | (with_reducible apply w_lsR1) | (with_reducible apply w_lsR2) | (with_reducible apply w_lsZ) | (with_reducible apply w_srtSet) | (with_reducible apply i_seqW) | (with_reducible apply i_rng1W) | (with_reducible apply i_rng2W) | (with_reducible apply i_enumW) | (with_reducible apply i_zipW) | (with_reducible apply s_exprW) | (with_reducible apply s_retW) | (with_reducible apply s_retNW) | (with_reducible apply s_asgW) | (with_reducible apply s_asgT) | (with_reducible apply s_parW) | (with_reducible apply s_iteW) | (with_reducible apply ss_nilW) | (with_reducible apply w_call) | (with_reducible apply WL.v) | (with_reducible apply WL.l) | ((with_reducible apply exW); (with_reducible exact ha _)) | ((with_reducible apply WE.cl); (exact cx _)) | ((with_reducible apply exW); first | (with_reducible exact eq_i) | (with_reducible exact eq_I) | (with_reducible exact ne_I) | (with_reducible exact ne_i) | (with_reducible exact len_I) | (with_reducible exact sl_last) | (with_reducible exact sl_take (by omega)) | (with_reducible exact sl_drop (by omega)) | (with_reducible exact mod_I (by omega)) | (with_reducible exact div_I (by omega) (by omega)) | (with_reducible exact cat_I (by omega))) | ((with_reducible apply fewW); (focus ((show _ ≤ 16777216); simp; done))) | ((with_reducible apply exW2); rfl) | ((with_reducible apply exW); rfl) | (exfalso; revert hk; decide) | (exfalso; revert hk; simp; done) | intro hk)
    exact ⟨by show some (T.int x) = some (T.int ((word p.1 p.2 (far.toNat + j)).getD 0)); rw [hx]; rfl, rfl⟩
  · have hpre : (List.range 12).filterMap (fun j => some (T.int ((word p.1 p.2 (far.toNat + j)).getD 0))) = ti (pre b 12) := by
      rw [filterMap_some]
      unfold pre ti
      rw [List.map_map]
      refine List.map_congr_left fun j hj => ?_
      show T.int ((word p.1 p.2 (far.toNat + j)).getD 0) = T.int ((word b.1 b.2 j).getD 0)
      rw [hbeh.w j]
    rw [hpre]
    repeat' (first | ((with_reducible apply w_slot); rfl) | (with_reducible apply w_non) | (with_reducible apply w_bl) | (with_reducible apply w_int) | (with_reducible apply w_str) | (with_reducible apply w_tup) | (with_reducible apply w_lst) | (with_reducible apply w_nil) | (with_reducible apply w_cons) | (with_reducible apply w_star) | (with_reducible apply w_bin) | (with_reducible apply w_cmp) | (with_reducible apply w_chain) | (with_reducible apply w_isN) | (with_reducible apply w_notN) | (with_reducible apply w_andW) | (with_reducible apply w_orW) | (with_reducible apply w_not) | (with_reducible apply w_neg) | (with_reducible apply w_ite) | (with_reducible apply w_f1) | (with_reducible apply w_f2) | (with_reducible apply w_isi) | (with_reducible apply w_ix) | (with_reducible apply w_slAll) | (with_reducible apply w_slL) | (with_reducible apply w_slU) | (with_reducible apply w_slLU) | (with_reducible apply w_pop0) | (with_reducible apply w_meth1) | (with_reducible apply w_lcA) | (with_reducible apply w_lsR1) | (with_reducible apply w_lsR2) | (with_reducible apply w_lsZ) | (with_reducible apply w_srtSet) | (with_reducible apply i_seqW) | (with_reducible apply i_rng1W) | (with_reducible apply i_rng2W) | (with_reducible apply i_enumW) | (with_reducible apply i_zipW) | (with_reducible apply s_exprW) | (with_reducible apply s_retW) | (with_reducible apply s_retNW) | (with_reducible apply s_asgW) | (with_reducible apply s_asgT) | (with_reducible apply s_parW) | (with_reducible apply s_iteW) | (with_reducible apply ss_nilW) | (with_reducible apply w_call) | (with_reducible apply WL.v) | (with_reducible apply WL.l) | ((with_reducible apply WE.cl); (exact c4 _)) | ((with_reducible apply exW); first | (with_reducible exact eq_i) | (with_reducible exact eq_I) | (with_reducible exact ne_I) | (with_reducible exact ne_i) | (with_reducible exact len_I) | (with_reducible exact sl_last) | (with_reducible exact sl_take (by omega)) | (with_reducible exact sl_drop (by omega)) | (with_reducible exact mod_I (by omega)) | (with_reducible exact div_I (by omega) (by omega)) | (with_reducible exact cat_I (by omega))) | ((with_reducible apply fewW); (focus ((show _ ≤ 16777216); simp; done))) | ((with_reducible apply exW2); rfl) | ((with_reducible apply exW); rfl) | (exfalso; revert hk; decide) | (exfalso; revert hk; simp; done) | intro hk)
    have hsp := las_wid (short_lok lok)
    have hsd := las_dep (shortIn p.1 p.2)
    have hsm := sm_las (shortIn p.1 p.2)
    generalize las (shortIn p.1 p.2) = sT at hsp hsd hsm
    have hst : sms (ti (pre b 12)) = true := by
      have h : ∀ l : List Int, sms (ti l) = true := fun l => by
        induction l with
        | nil => rfl
        | cons x l ih => exact ih
      exact h _
    refine WE.cl (e_lsamer 5 17 [tI (pre b 12), .bl true, sT] ?_ ?_ ?_ h.next (h.next + 1) _ ?_ ?_) ?_
    · show (sms (ti (pre b 12)) && (sm sT && true)) = true
      rw [hst, hsm] <;> rfl
    · have := deps_ti (pre b 12)
      show max (T.deps (ti (pre b 12)) + 1) (max 1 (max sT.dep 0)) ≤ 5
      omega
    · show max 3 (max (max (ti (pre b 12)).length (wids (ti (pre b 12)))) (max 0 (max (wid sT) 0))) ≤ 5000
      rw [wids_ti, ti_length, pre_len]
      omega
    · rw [get_new_ne (by show h.next < h.next + 1; omega)]
      exact get_new_same
    · exact get_new_same
    · repeat' (first | ((with_reducible apply w_slot); rfl) | (with_reducible apply w_non) | (with_reducible apply w_bl) | (with_reducible apply w_int) | (with_reducible apply w_str) | (with_reducible apply w_tup) | (with_reducible apply w_lst) | (with_reducible apply w_nil) | (with_reducible apply w_cons) | (with_reducible apply w_star) | (with_reducible apply w_bin) | (with_reducible apply w_cmp) | (with_reducible apply w_chain) | (with_reducible apply w_isN) | (with_reducible apply w_notN) | (with_reducible apply w_andW) | (with_reducible apply w_orW) | (with_reducible apply w_not) | (with_reducible apply w_neg) | (with_reducible apply w_ite) | (with_reducible apply w_f1) | (with_reducible apply w_f2) | (with_reducible apply w_isi) | (with_reducible apply w_ix) | (with_reducible apply w_slAll) | (with_reducible apply w_slL) | (with_reducible apply w_slU) | (with_reducible apply w_slLU) | (with_reducible apply w_pop0) | (with_reducible apply w_meth1) | (with_reducible apply w_lcA) | (with_reducible apply w_lsR1) | (with_reducible apply w_lsR2) | (with_reducible apply w_lsZ) | (with_reducible apply w_srtSet) | (with_reducible apply i_seqW) | (with_reducible apply i_rng1W) | (with_reducible apply i_rng2W) | (with_reducible apply i_enumW) | (with_reducible apply i_zipW) | (with_reducible apply s_exprW) | (with_reducible apply s_retW) | (with_reducible apply s_retNW) | (with_reducible apply s_asgW) | (with_reducible apply s_asgT) | (with_reducible apply s_parW) | (with_reducible apply s_iteW) | (with_reducible apply ss_nilW) | (with_reducible apply w_call) | (with_reducible apply WL.v) | (with_reducible apply WL.l) | ((with_reducible apply exW); first | (with_reducible exact eq_i) | (with_reducible exact eq_I) | (with_reducible exact ne_I) | (with_reducible exact ne_i) | (with_reducible exact len_I) | (with_reducible exact sl_last) | (with_reducible exact sl_take (by omega)) | (with_reducible exact sl_drop (by omega)) | (with_reducible exact mod_I (by omega)) | (with_reducible exact div_I (by omega) (by omega)) | (with_reducible exact cat_I (by omega))) | ((with_reducible apply fewW); (focus ((show _ ≤ 16777216); simp; done))) | ((with_reducible apply exW2); rfl) | ((with_reducible apply exW); rfl) | (exfalso; revert hk; decide) | (exfalso; revert hk; simp; done) | intro hk)
      have bx2 : Box i n ((h.new (.lst [tI (pre b 12), .bl true, sT])).new (.lst [tI (pre b 12), .bl true, sT])) := bx.new.new
      show WS (evSs P23 _ [o0, some (.ref i), some (.int far), o3, o4, o5, o6, some (las b), o8, o9, o10, o11, some (las p), o13, some (tI p.1), some (tI p.2), o16, o17, o18, o19] ((h.new (.lst [tI (pre b 12), .bl true, sT])).new (.lst [tI (pre b 12), .bl true, sT]))) DT
      generalize (h.new (.lst [tI (pre b 12), .bl true, sT])).new (.lst [tI (pre b 12), .bl true, sT]) = h2 at bx2
      have e1 : ∀ h, cl (16 + 7) "endless_letters" [las b] h = .ok (.tup [tI (setS p.2), tI (setS p.2)]) h := fun h => by
        have := e_endless 16 b hbeh.ok (by rw [hbl.1]; show 0 + b.2.length < 64; omega) h
        rw [this]
        unfold lts
        rw [hset.1, hset.2]
      have e2 : ∀ h, cl (16 + 7) "endless_letters" [las p] h = .ok (.tup [tI (setS (p.1 ++ p.2)), tI (setS p.2)]) h := fun h => e_endless 16 p lok (by omega) h
      have g1 : ∀ h, opIx h (.v (.tup [tI (setS (p.1 ++ p.2)), tI (setS p.2)])) (.v (.int 1)) = some (.v (tI (setS p.2))) := fun h => rfl
      have g2 : ∀ h, opB .mul h (.v (.tup [tI (setS p.2)])) (.v (.int 2)) = some (.v (.tup [tI (setS p.2), tI (setS p.2)])) := fun h => rfl
      have it2 : ∀ x y : List Int, (T.tup [tI x, tI y]).it = true := fun x y => by
        show (T.its (ti x) && (T.its (ti y) && true)) = true
        rw [its_ti, its_ti] <;> rfl
      have dp2 : ∀ x y : List Int, (T.tup [tI x, tI y]).dep ≤ 60 := fun x y => by
        have h1 := deps_ti x
        have h2 := deps_ti y
        show max (T.deps (ti x) + 1) (max (T.deps (ti y) + 1) 0) + 1 ≤ 60
        omega
      have g3 : ∀ (x y : List Int) (h : Hd), opC .ne h (.v (.tup [tI x, tI y])) (.v (.tup [tI x, tI y])) = some false := fun x y h => ne_same (it2 x y) (dp2 x y)
      have g4 : ∀ h, opB .add h (.v (tI p.1)) (.v (tI p.2)) = some (.v (tI (p.1 ++ p.2))) := fun h => cat_I (by omega)
      have g5 : ∀ h, srtS h (.v (tI (p.1 ++ p.2))) = some (.l (ti (setS (p.1 ++ p.2)))) := fun h => srtS_I (by rw [List.length_append]; omega)
      have g6 : ∀ h, srtS h (.v (tI p.2)) = some (.l (ti (setS p.2))) := fun h => srtS_I (by omega)
      have g7 : ∀ (l : List Int) (h : Hd), op1 .tuple h (.l (ti l)) = some (.v (tI l)) := fun l h => rfl
      with_reducible apply ss_consW
      repeat' (first | ((with_reducible apply w_slot); rfl) | (with_reducible apply w_non) | (with_reducible apply w_bl) | (with_reducible apply w_int) | (with_reducible apply w_str) | (with_reducible apply w_tup) | (with_reducible apply w_lst) | (with_reducible apply w_nil) | (with_reducible apply w_cons) | (with_reducible apply w_star) | (with_reducible apply w_bin) | (with_reducible apply w_cmp) | (with_reducible apply w_chain) | (with_reducible apply w_isN) | (with_reducible apply w_notN) | (with_reducible apply w_andW) | (with_reducible apply w_orW) | (with_reducible apply w_not) | (with_reducible apply w_neg) | (with_reducible apply w_ite) | (with_reducible apply w_f1) | (with_reducible apply w_f2) | (with_reducible apply w_isi) | (with_reducible apply w_ix) | (with_reducible apply w_slAll) | (with_reducible apply w_slL) | (with_reducible apply w_slU) | (with_reducible apply w_slLU) | (with_reducible apply w_pop0) | (with_reducible apply w_meth1) | (with_reducible apply w_lcA) | (with_reducible apply w_lsR1) | (with_reducible apply w_lsR2) | (with_reducible apply w_lsZ) | (with_reducible apply w_srtSet) | (with_reducible apply i_seqW) | (with_reducible apply i_rng1W) | (with_reducible apply i_rng2W) | (with_reducible apply i_enumW) | (with_reducible apply i_zipW) | (with_reducible apply s_exprW) | (with_reducible apply s_retW) | (with_reducible apply s_retNW) | (with_reducible apply s_asgW) | (with_reducible apply s_asgT) | (with_reducible apply s_parW) | (with_reducible apply s_iteW) | (with_reducible apply ss_nilW) | (with_reducible apply w_call) | (with_reducible apply WL.v) | (with_reducible apply WL.l) | ((with_reducible apply WE.cl); (exact e1 _)) | ((with_reducible apply WE.cl); (exact e2 _)) | ((with_reducible apply exW); (with_reducible first | exact g1 _ | exact g2 _ | exact g3 _ _ _ | exact g4 _ | exact g5 _ | exact g6 _ | exact g7 _ _)) | ((with_reducible apply exW); first | (with_reducible exact eq_i) | (with_reducible exact eq_I) | (with_reducible exact ne_I) | (with_reducible exact ne_i) | (with_reducible exact len_I) | (with_reducible exact sl_last) | (with_reducible exact sl_take (by omega)) | (with_reducible exact sl_drop (by omega)) | (with_reducible exact mod_I (by omega)) | (with_reducible exact div_I (by omega) (by omega)) | (with_reducible exact cat_I (by omega))) | ((with_reducible apply fewW); (focus ((show _ ≤ 16777216); simp; done))) | ((with_reducible apply exW2); rfl) | ((with_reducible apply exW); rfl) | (exfalso; revert hk; decide) | (exfalso; revert hk; simp; done) | intro hk)
      exact last n (by omega) _ _ _ _ _ _ _ _ _ _ _ _ _ _ _ _ _ bx2
end K01
end

section
set_option Elab.async false
set_option linter.all false
set_option maxRecDepth 100000
set_option maxHeartbeats 2000000
namespace K01
open PySem Pv Las
theorem fm_head (P : Nat → Bool) : ∀ n, ((List.range n).filterMap (fun j => if P j then some ((1 : Int) + (j : Int)) else none) = [] ∧ ∀ j, j < n → P j = false) ∨
    ∃ j, j < n ∧ ((List.range n).filterMap (fun j => if P j then some ((1 : Int) + (j : Int)) else none))[0]? = some ((1 : Int) + (j : Int)) ∧ P j = true ∧ ∀ i, i < j → P i = false
  | 0 => .inl ⟨rfl, fun j hj => by omega⟩
  | n + 1 => by
    rw [List.range_succ, List.filterMap_append]
    rcases fm_head P n with ⟨h1, h2⟩ | ⟨j, j1, j2, j3, j4⟩
    · rw [h1, List.nil_append]
      cases hP : P n with
      | false =>
        refine .inl ⟨?_, fun j hj => ?_⟩
        · rw [List.filterMap_cons, hP] <;> rfl
        · by_cases e : j = n
          · rw [e]; exact hP
          · exact h2 j (by omega)
      | true =>
        refine .inr ⟨n, by omega, ?_, hP, h2⟩
        rw [List.filterMap_cons, hP] <;> rfl
    · refine .inr ⟨j, by omega, ?_, j3, j4⟩
      rw [List.getElem?_append_left ?_]
      · exact j2
      · rcases Nat.lt_or_ge 0 ((List.range n).filterMap (fun j => if P j then some ((1 : Int) + (j : Int)) else none)).length with z | z
        · exact z
        · rw [List.getElem?_eq_none z] at j2; cases j2
theorem lat_per {p : List Int × List Int} (hb : p.2 ≠ []) {far : Int} (hf : (p.1.length : Int) ≤ far) (n : Nat) : lat p far n = lat p far (n % p.2.length) := by
  have hp : 0 < p.2.length := List.length_pos_iff.mpr hb
  have per := word_per (a := p.1) hb
  unfold lat
  have key : ∀ k, word p.1 p.2 ((far + (n % p.2.length : Nat)).toNat + p.2.length * k) = word p.1 p.2 (far + (n % p.2.length : Nat)).toNat := by
    intro k
    induction k with
    | zero => rfl
    | succ k ih =>
      rw [Nat.mul_succ, ← Nat.add_assoc, per _ (by omega), ih]
  have e : (far + (n : Int)).toNat = (far + (n % p.2.length : Nat)).toNat + p.2.length * (n / p.2.length) := by
    have := Nat.mod_add_div n p.2.length
    omega
  rw [e, key]
theorem lat_at {p : List Int × List Int} (hb : p.2 ≠ []) {far : Int} (hf : (p.1.length : Int) < far) (j : Nat) : p.2[((far - p.1.length - 1 + (1 + (j : Int))) % (p.2.length : Int)).toNat]? = some (lat p far j) := by
  have hp : 0 < p.2.length := List.length_pos_iff.mpr hb
  obtain ⟨x, hx, _⟩ := word_some (a := p.1) hb (far + (j : Int)).toNat
  unfold lat
  rw [hx]
  show _ = some x
  rw [← hx]
  unfold word
  rw [if_neg (by omega)]
  congr 1
  have e : far - (p.1.length : Int) - 1 + (1 + (j : Int)) = (((far + (j : Int)).toNat - p.1.length : Nat) : Int) := by omega
  rw [e, ← Int.natCast_emod, Int.toNat_natCast]
theorem law3 (A B : Int) (p : List Int × List Int) (eA : A = (p.1.length : Nat)) (eB : B = (p.2.length : Nat)) (aT bT : T) (eaT : aT = tI p.1) (ebT : bT = tI p.2) (o : Own p) (s : List Int) (ls : Lt s) (i n : Nat) (hn : n < 400000) (far : Int) (f0 : 1000000000000000000000 ≤ far * 100) (f1 : far ≤ 100000000000000000000000000000) (o0 o3 o4 o5 o6 o7 o8 o9 o10 o11 o16 o17 o18 o19 : Option T) (h : Hd) (bx : Box i n h) :
    WS (evSs P23 (sdrop 10 d_law.body) [o0, some (.ref i), some (.int far), o3, o4, o5, o6, o7, o8, o9, o10, o11, some (las p), some (tI s), some aT, some bT, o16, o17, o18, o19] h) DT := by
  have lok := o.lok
  have l1 := o.l1
  have l2 := o.l2
  have hp : 0 < p.2.length := List.length_pos_iff.mpr o.ne
  have last := law4 p o i n hn far (by omega) f1
  rw [← eaT, ← ebT] at last
  dsimp only [sdrop, d_law] at last ⊢
  have hfa : (p.1.length : Int) < far := by omega
  have hlA : ∀ h, op1 .len h (.v aT) = some (.v (.int A)) := fun h => by rw [eA, eaT]; exact len_I
  have hlB : ∀ h, op1 .len h (.v bT) = some (.v (.int B)) := fun h => by rw [eB, ebT]; exact len_I
  have hat := fun j => lat_at (p := p) o.ne hfa j
  rw [← eA, ← eB] at hat
  with_reducible apply ss_consW
  repeat' (first | ((with_reducible apply w_slot); rfl) | (with_reducible apply w_non) | (with_reducible apply w_bl) | (with_reducible apply w_int) | (with_reducible apply w_str) | (with_reducible apply w_tup) | (with_reducible apply w_lst) | (with_reducible apply w_nil) | (with_reducible apply w_cons) | (with_reducible apply w_star) | (with_reducible apply w_bin) | (with_reducible apply w_cmp) | (with_reducible apply w_chain) | (with_reducible apply w_isN) | (with_reducible apply w_notN) | (with_reducible apply w_andW) | (with_reducible apply w_orW) | (with_reducible apply w_not) | (with_reducible apply w_neg) | (with_reducible apply w_ite) | (with_reducible apply w_f1) | (with_reducible apply w_f2) | (with_reducible apply w_isi) | (with_reducible apply w_ix) | (with_reducible apply w_slAll) | (with_reducible apply w_slL) | (with_reducible apply w_slU) | (with_reducible apply w_slLU) | (with_reducible apply w_pop0) | (with_reducible apply w_meth1) | (with_reducible apply w_lcA) | (with_reducible apply w_lsR1) | (with_reducible apply w_lsR2) | (with_reducible apply w_lsZ) | (with_reducible apply w_srtSet) | (with_reducible apply i_seqW) | (with_reducible apply i_rng1W) | (with_reducible apply i_rng2W) | (with_reducible apply i_enumW) | (with_reducible apply i_zipW) | (with_reducible apply s_exprW) | (with_reducible apply s_retW) | (with_reducible apply s_retNW) | (with_reducible apply s_asgW) | (with_reducible apply s_asgT) | (with_reducible apply s_parW) | (with_reducible apply s_iteW) | (with_reducible apply ss_nilW) | (with_reducible apply w_call) | (with_reducible apply WL.v) | (with_reducible apply WL.l) | ((with_reducible apply exW); (with_reducible first | exact hlA _ | exact hlB _)) | ((with_reducible apply exW); first | (with_reducible exact eq_i) | (with_reducible exact eq_I) | (with_reducible exact ne_I) | (with_reducible exact ne_i) | (with_reducible exact len_I) | (with_reducible exact sl_last) | (with_reducible exact sl_take (by omega)) | (with_reducible exact sl_drop (by omega)) | (with_reducible exact mod_I (by omega)) | (with_reducible exact div_I (by omega) (by omega)) | (with_reducible exact cat_I (by omega))) | ((with_reducible apply fewW); (focus ((show _ ≤ 16777216); simp; done))) | ((with_reducible apply exW2); rfl) | ((with_reducible apply exW); rfl) | (exfalso; revert hk; decide) | (exfalso; revert hk; simp; done) | intro hk)
  have h62 : small62 (B + 1) = true := by
    unfold small62
    simp
    omega
  refine ⟨1, B + 1, rfl, rfl, h62, List.range p.2.length, fun j : Nat => .int (1 + (j : Int)), fun j => if decide (lat p far j ∈ s) then some (.int (1 + (j : Int))) else none, ?_, ?_, by show 100000 ≤ 16777216; omega, fun j hj => ⟨_, rfl, c_oneW ?_⟩, ?_⟩
  · rw [show (B + 1 - 1).toNat = p.2.length by omega]
    exact fix_rng
  · rw [List.length_range]
    show p.2.length < 100000
    omega
  · obtain ⟨x, hx⟩ : ∃ x : Int, x = 1 + (j : Int) := ⟨_, rfl⟩
    have hm0 := Int.emod_nonneg (far - A - 1 + x) (show B ≠ 0 by omega)
    have hgx : ∀ h, opIx h (.v bT) (.v (.int ((far - A - 1 + x) % B))) = some (.v (.int (lat p far j))) := fun h => by rw [ebT]; exact ix_nat hm0 (by rw [hx]; exact hat j)
    dsimp only
    rw [← hx]
    repeat' (first | ((with_reducible apply w_slot); rfl) | (with_reducible apply w_non) | (with_reducible apply w_bl) | (with_reducible apply w_int) | (with_reducible apply w_str) | (with_reducible apply w_tup) | (with_reducible apply w_lst) | (with_reducible apply w_nil) | (with_reducible apply w_cons) | (with_reducible apply w_star) | (with_reducible apply w_bin) | (with_reducible apply w_cmp) | (with_reducible apply w_chain) | (with_reducible apply w_isN) | (with_reducible apply w_notN) | (with_reducible apply w_andW) | (with_reducible apply w_orW) | (with_reducible apply w_not) | (with_reducible apply w_neg) | (with_reducible apply w_ite) | (with_reducible apply w_f1) | (with_reducible apply w_f2) | (with_reducible apply w_isi) | (with_reducible apply w_ix) | (with_reducible apply w_slAll) | (with_reducible apply w_slL) | (with_reducible apply w_slU) | (with_reducible apply w_slLU) | (with_reducible apply w_pop0) | (with_reducible apply w_meth1) | (with_reducible apply w_lcA) | (with_reducible apply w_lsR1) | (with_reducible apply w_lsR2) | (with_reducible apply w_lsZ) | (with_reducible apply w_srtSet) | (with_reducible apply i_seqW) | (with_reducible apply i_rng1W) | (with_reducible apply i_rng2W) | (with_reducible apply i_enumW) | (with_reducible apply i_zipW) | (with_reducible apply s_exprW) | (with_reducible apply s_retW) | (with_reducible apply s_retNW) | (with_reducible apply s_asgW) | (with_reducible apply s_asgT) | (with_reducible apply s_parW) | (with_reducible apply s_iteW) | (with_reducible apply ss_nilW) | (with_reducible apply w_call) | (with_reducible apply WL.v) | (with_reducible apply WL.l) | ((with_reducible apply exW); (with_reducible first | exact hlA _ | exact hlB _ | exact hgx _ | exact in_I rfl)) | ((with_reducible apply exW); first | (with_reducible exact eq_i) | (with_reducible exact eq_I) | (with_reducible exact ne_I) | (with_reducible exact ne_i) | (with_reducible exact len_I) | (with_reducible exact sl_last) | (with_reducible exact sl_take (by omega)) | (with_reducible exact sl_drop (by omega)) | (with_reducible exact mod_I (by omega)) | (with_reducible exact div_I (by omega) (by omega)) | (with_reducible exact cat_I (by omega))) | ((with_reducible apply fewW); (focus ((show _ ≤ 16777216); simp; done))) | ((with_reducible apply exW2); rfl) | ((with_reducible apply exW); rfl) | (exfalso; revert hk; decide) | (exfalso; revert hk; simp; done) | intro hk)
    all_goals first
      | (exact ⟨by show some (T.int x) = (if decide (lat p far j ∈ s) = true then some (T.int x) else none); rw [if_pos hk], rfl⟩)
      | (exact ⟨by show none = (if decide (lat p far j ∈ s) = true then some (T.int x) else none); rw [if_neg (by rw [hk]; simp)], rfl⟩)
  · obtain ⟨G, eG⟩ : ∃ G : List Int, G = (List.range p.2.length).filterMap (fun j => if decide (lat p far j ∈ s) then some ((1 : Int) + (j : Int)) else none) := ⟨_, rfl⟩
    have hG : (List.range p.2.length).filterMap (fun j : Nat => if decide (lat p far j ∈ s) then some (T.int (1 + (j : Int))) else none) = ti G := by
      rw [eG]
      unfold ti
      rw [List.map_filterMap]
      congr 1
      funext j
      cases decide (lat p far j ∈ s) <;> rfl
    rw [hG]
    repeat' (first | ((with_reducible apply w_slot); rfl) | (with_reducible apply w_non) | (with_reducible apply w_bl) | (with_reducible apply w_int) | (with_reducible apply w_str) | (with_reducible apply w_tup) | (with_reducible apply w_lst) | (with_reducible apply w_nil) | (with_reducible apply w_cons) | (with_reducible apply w_star) | (with_reducible apply w_bin) | (with_reducible apply w_cmp) | (with_reducible apply w_chain) | (with_reducible apply w_isN) | (with_reducible apply w_notN) | (with_reducible apply w_andW) | (with_reducible apply w_orW) | (with_reducible apply w_not) | (with_reducible apply w_neg) | (with_reducible apply w_ite) | (with_reducible apply w_f1) | (with_reducible apply w_f2) | (with_reducible apply w_isi) | (with_reducible apply w_ix) | (with_reducible apply w_slAll) | (with_reducible apply w_slL) | (with_reducible apply w_slU) | (with_reducible apply w_slLU) | (with_reducible apply w_pop0) | (with_reducible apply w_meth1) | (with_reducible apply w_lcA) | (with_reducible apply w_lsR1) | (with_reducible apply w_lsR2) | (with_reducible apply w_lsZ) | (with_reducible apply w_srtSet) | (with_reducible apply i_seqW) | (with_reducible apply i_rng1W) | (with_reducible apply i_rng2W) | (with_reducible apply i_enumW) | (with_reducible apply i_zipW) | (with_reducible apply s_exprW) | (with_reducible apply s_retW) | (with_reducible apply s_retNW) | (with_reducible apply s_asgW) | (with_reducible apply s_asgT) | (with_reducible apply s_parW) | (with_reducible apply s_iteW) | (with_reducible apply ss_nilW) | (with_reducible apply w_call) | (with_reducible apply WL.v) | (with_reducible apply WL.l) | ((with_reducible apply exW); first | (with_reducible exact eq_i) | (with_reducible exact eq_I) | (with_reducible exact ne_I) | (with_reducible exact ne_i) | (with_reducible exact len_I) | (with_reducible exact sl_last) | (with_reducible exact sl_take (by omega)) | (with_reducible exact sl_drop (by omega)) | (with_reducible exact mod_I (by omega)) | (with_reducible exact div_I (by omega) (by omega)) | (with_reducible exact cat_I (by omega))) | ((with_reducible apply fewW); (focus ((show _ ≤ 16777216); simp; done))) | ((with_reducible apply exW2); rfl) | ((with_reducible apply exW); rfl) | (exfalso; revert hk; decide) | (exfalso; revert hk; simp; done) | intro hk)
    have gG : (h.new (.lst (ti G))).get h.next = some (.lst (ti G)) := get_new_same
    have bx1 : Box i n (h.new (.lst (ti G))) := bx.new
    show WS (evSs P23 _ _ (h.new (.lst (ti G)))) DT
    generalize h.new (.lst (ti G)) = h1 at gG bx1
    generalize h.next = m at gG
    have hhead := fm_head (fun j => decide (lat p far j ∈ s)) p.2.length
    have eG' : G = (List.range p.2.length).filterMap (fun j => if (fun j => decide (lat p far j ∈ s)) j = true then some ((1 : Int) + (j : Int)) else none) := eG
    rw [← eG'] at hhead
    have hnn : opC .ne h1 (.v (.ref m)) (.l []) = some (!decide (G = [])) := ne_nil (dat_R gG)
    rcases hhead with ⟨g0, gall⟩ | ⟨j, j1, j2, j3, j4⟩
    · have nx : ∀ h, cl (16 + 7) "next_with" [las p, tI s, .int far] h = .ok .non h := fun h => e_next 16 p lok s ls far (by omega) (by omega) .non rfl (.inl ⟨rfl, fun n hn => by
        rw [lat_per o.ne (by omega)]
        exact of_decide_eq_false (gall _ (Nat.mod_lt _ hp))⟩) h
      have hnn : opC .ne h1 (.v (.ref m)) (.l []) = some false := by rw [hnn, decide_eq_true g0] <;> rfl
      with_reducible apply ss_consW
      repeat' (first | ((with_reducible apply w_slot); rfl) | (with_reducible apply w_non) | (with_reducible apply w_bl) | (with_reducible apply w_int) | (with_reducible apply w_str) | (with_reducible apply w_tup) | (with_reducible apply w_lst) | (with_reducible apply w_nil) | (with_reducible apply w_cons) | (with_reducible apply w_star) | (with_reducible apply w_bin) | (with_reducible apply w_cmp) | (with_reducible apply w_chain) | (with_reducible apply w_isN) | (with_reducible apply w_notN) | (with_reducible apply w_andW) | (with_reducible apply w_orW) | (with_reducible apply w_not) | (with_reducible apply w_neg) | (with_reducible apply w_ite) | (with_reducible apply w_f1) | (with_reducible apply w_f2) | (with_reducible apply w_isi) | (with_reducible apply w_ix) | (with_reducible apply w_slAll) | (with_reducible apply w_slL) | (with_reducible apply w_slU) | (with_reducible apply w_slLU) | (with_reducible apply w_pop0) | (with_reducible apply w_meth1) | (with_reducible apply w_lcA) | (with_reducible apply w_lsR1) | (with_reducible apply w_lsR2) | (with_reducible apply w_lsZ) | (with_reducible apply w_srtSet) | (with_reducible apply i_seqW) | (with_reducible apply i_rng1W) | (with_reducible apply i_rng2W) | (with_reducible apply i_enumW) | (with_reducible apply i_zipW) | (with_reducible apply s_exprW) | (with_reducible apply s_retW) | (with_reducible apply s_retNW) | (with_reducible apply s_asgW) | (with_reducible apply s_asgT) | (with_reducible apply s_parW) | (with_reducible apply s_iteW) | (with_reducible apply ss_nilW) | (with_reducible apply w_call) | (with_reducible apply WL.v) | (with_reducible apply WL.l) | ((with_reducible apply WE.cl); (exact nx _)) | ((with_reducible apply exW); (with_reducible exact hnn)) | ((with_reducible apply WE.cl); (exact e_lsame 1 .non rfl (Nat.le_refl _) (Nat.zero_le _) 22 _)) | ((with_reducible apply exW); first | (with_reducible exact eq_i) | (with_reducible exact eq_I) | (with_reducible exact ne_I) | (with_reducible exact ne_i) | (with_reducible exact len_I) | (with_reducible exact sl_last) | (with_reducible exact sl_take (by omega)) | (with_reducible exact sl_drop (by omega)) | (with_reducible exact mod_I (by omega)) | (with_reducible exact div_I (by omega) (by omega)) | (with_reducible exact cat_I (by omega))) | ((with_reducible apply fewW); (focus ((show _ ≤ 16777216); simp; done))) | ((with_reducible apply exW2); rfl) | ((with_reducible apply exW); rfl) | (exfalso; revert hk; decide) | (exfalso; revert hk; simp; done) | intro hk)
      exact last _ _ _ _ _ _ _ _ _ _ _ _ _ _ _ h1 bx1
    · have hne : G ≠ [] := fun z => by rw [z] at j2; cases j2
      obtain ⟨r, er⟩ : ∃ r : Int, r = far + (1 + (j : Int)) := ⟨_, rfl⟩
      have nx : ∀ h, cl (16 + 7) "next_with" [las p, tI s, .int far] h = .ok (.int r) h := fun h => e_next 16 p lok s ls far (by omega) (by omega) (.int r) rfl (.inr ⟨j, by omega, by rw [er, ← Int.add_assoc], of_decide_eq_true j3, fun k hk => of_decide_eq_false (j4 k hk)⟩) h
      have hnn : opC .ne h1 (.v (.ref m)) (.l []) = some true := by rw [hnn, decide_eq_false hne] <;> rfl
      obtain ⟨g, eg⟩ : ∃ g : Int, g = 1 + (j : Int) := ⟨_, rfl⟩
      have hix : opIx h1 (.v (.ref m)) (.v (.int 0)) = some (.v (.int g)) := ix_ref gG (by rw [atI_nat _ _ (by omega), ti_get, show (0 : Int).toNat = 0 from rfl, j2, eg] <;> rfl)
      have had : ∀ h, opB .add h (.v (.int far)) (.v (.int g)) = some (.v (.int r)) := fun h => by rw [er, eg]; rfl
      with_reducible apply ss_consW
      repeat' (first | ((with_reducible apply w_slot); rfl) | (with_reducible apply w_non) | (with_reducible apply w_bl) | (with_reducible apply w_int) | (with_reducible apply w_str) | (with_reducible apply w_tup) | (with_reducible apply w_lst) | (with_reducible apply w_nil) | (with_reducible apply w_cons) | (with_reducible apply w_star) | (with_reducible apply w_bin) | (with_reducible apply w_cmp) | (with_reducible apply w_chain) | (with_reducible apply w_isN) | (with_reducible apply w_notN) | (with_reducible apply w_andW) | (with_reducible apply w_orW) | (with_reducible apply w_not) | (with_reducible apply w_neg) | (with_reducible apply w_ite) | (with_reducible apply w_f1) | (with_reducible apply w_f2) | (with_reducible apply w_isi) | (with_reducible apply w_ix) | (with_reducible apply w_slAll) | (with_reducible apply w_slL) | (with_reducible apply w_slU) | (with_reducible apply w_slLU) | (with_reducible apply w_pop0) | (with_reducible apply w_meth1) | (with_reducible apply w_lcA) | (with_reducible apply w_lsR1) | (with_reducible apply w_lsR2) | (with_reducible apply w_lsZ) | (with_reducible apply w_srtSet) | (with_reducible apply i_seqW) | (with_reducible apply i_rng1W) | (with_reducible apply i_rng2W) | (with_reducible apply i_enumW) | (with_reducible apply i_zipW) | (with_reducible apply s_exprW) | (with_reducible apply s_retW) | (with_reducible apply s_retNW) | (with_reducible apply s_asgW) | (with_reducible apply s_asgT) | (with_reducible apply s_parW) | (with_reducible apply s_iteW) | (with_reducible apply ss_nilW) | (with_reducible apply w_call) | (with_reducible apply WL.v) | (with_reducible apply WL.l) | ((with_reducible apply WE.cl); (exact nx _)) | ((with_reducible apply exW); (with_reducible first | exact hnn | exact hix | exact had _)) | ((with_reducible apply WE.cl); (exact e_lsame 1 (.int r) rfl (Nat.le_refl _) (Nat.zero_le _) 22 _)) | ((with_reducible apply exW); first | (with_reducible exact eq_i) | (with_reducible exact eq_I) | (with_reducible exact ne_I) | (with_reducible exact ne_i) | (with_reducible exact len_I) | (with_reducible exact sl_last) | (with_reducible exact sl_take (by omega)) | (with_reducible exact sl_drop (by omega)) | (with_reducible exact mod_I (by omega)) | (with_reducible exact div_I (by omega) (by omega)) | (with_reducible exact cat_I (by omega))) | ((with_reducible apply fewW); (focus ((show _ ≤ 16777216); simp; done))) | ((with_reducible apply exW2); rfl) | ((with_reducible apply exW); rfl) | (exfalso; revert hk; decide) | (exfalso; revert hk; simp; done) | intro hk)
      exact last _ _ _ _ _ _ _ _ _ _ _ _ _ _ _ h1 bx1
end K01
end

section
set_option Elab.async false
set_option linter.all false
set_option maxRecDepth 100000
set_option maxHeartbeats 2000000
namespace K01
open PySem Pv Las
theorem fm_one (s : List Int) : ∀ l : List Int, (l.filterMap (fun i => if i ∈ s then some (T.int 1) else none)).length = cnt s l
  | [] => rfl
  | i :: l => by
    have ih := fm_one s l
    unfold cnt at ih ⊢
    rw [List.filterMap_cons, List.filter_cons]
    by_cases h : i ∈ s
    · rw [if_pos h, decide_eq_true h]
      show (_ :: _ : List T).length = (_ :: _ : List Int).length
      rw [List.length_cons, List.length_cons, ih]
    · rw [if_neg h, decide_eq_false h]
      exact ih
theorem lt123 : Lt [1, 2, 3] := sets_lt [1, 2, 3] (by decide)
theorem law2 (A B wh rs : Int) (p : List Int × List Int) (eA : A = (p.1.length : Nat)) (eB : B = (p.2.length : Nat)) (aT bT : T) (eaT : aT = tI p.1) (ebT : bT = tI p.2) (o : Own p) (s : List Int) (ls : Lt s) (i n : Nat) (hn : n < 400000) (far : Int) (f0 : 1000000000000000000000 ≤ far * 100) (f1 : far ≤ 100000000000000000000000000000)
    (ewh : wh = (far - A) / B) (ers : rs = (far - A) % B) (o0 o3 o4 o5 o6 o7 o8 o9 o10 o11 o18 o19 : Option T) (h : Hd) (bx : Box i n h) :
    WS (evSs P23 (sdrop 5 d_law.body) [o0, some (.ref i), some (.int far), o3, o4, o5, o6, o7, o8, o9, o10, o11, some (las p), some (tI s), some aT, some bT, some (.int wh), some (.int rs), o18, o19] h) DT := by
  have lok := o.lok
  have l1 := o.l1
  have l2 := o.l2
  have hp : 0 < p.2.length := List.length_pos_iff.mpr o.ne
  have hsl := ls.ln
  have last := law3 A B p eA eB aT bT eaT ebT o s ls i n hn far f0 f1
  dsimp only [sdrop, d_law] at last ⊢
  have hfa : (p.1.length : Int) < far := by omega
  have hr0 : 0 ≤ rs := by rw [ers]; exact Int.emod_nonneg _ (by omega)
  obtain ⟨many, em⟩ : ∃ many : Int, many = often p s far := ⟨_, rfl⟩
  obtain ⟨c1, ec1⟩ : ∃ c : Int, c = (cnt s p.1 : Nat) := ⟨_, rfl⟩
  obtain ⟨c2, ec2⟩ : ∃ c : Int, c = (cnt s p.2 : Nat) := ⟨_, rfl⟩
  obtain ⟨c3, ec3⟩ : ∃ c : Int, c = (cnt s (p.2.take rs.toNat) : Nat) := ⟨_, rfl⟩
  have hc2 := cnt_le s p.2
  obtain ⟨m0, em0⟩ : ∃ m : Int, m = wh * c2 := ⟨_, rfl⟩
  obtain ⟨m1, em1⟩ : ∃ m : Int, m = c1 + m0 := ⟨_, rfl⟩
  have emany : many = m1 + c3 := by
    rw [em, often_big hfa, em1, em0, ewh, ec1, ec2, ec3, ers, eA, eB]
  have hlA : ∀ h, op1 .len h (.v aT) = some (.v (.int A)) := fun h => by rw [eA, eaT]; exact len_I
  have hlB : ∀ h, op1 .len h (.v bT) = some (.v (.int B)) := fun h => by rw [eB, ebT]; exact len_I
  have hbA : ∀ h, biOf h (.v aT) = some (.tp (ti p.1)) := fun h => by rw [eaT]; rfl
  have hbB : ∀ h, biOf h (.v bT) = some (.tp (ti p.2)) := fun h => by rw [ebT]; rfl
  have hsU : ∀ h, opSl h (.v bT) none (some rs) = some (.v (tI (p.2.take rs.toNat))) := fun h => by rw [ebT]; exact sl_take hr0
  have hn1 : ∀ (l : List Int) (c : Int) (h : Hd), c = (cnt s l : Nat) → op1 .len h (.l (l.filterMap fun i => if i ∈ s then some (T.int 1) else none)) = some (.v (.int c)) := fun l c h e => by
    show some (VV.v (.int ((l.filterMap fun i => if i ∈ s then some (T.int 1) else none).length : Nat))) = _
    rw [fm_one, e]
  have g1 : ∀ h, op1 .len h (.l (p.1.filterMap fun i => if i ∈ s then some (T.int 1) else none)) = some (.v (.int c1)) := fun h => hn1 _ _ h ec1
  have g2 : ∀ h, op1 .len h (.l (p.2.filterMap fun i => if i ∈ s then some (T.int 1) else none)) = some (.v (.int c2)) := fun h => hn1 _ _ h ec2
  have g3 : ∀ h, op1 .len h (.l ((p.2.take rs.toNat).filterMap fun i => if i ∈ s then some (T.int 1) else none)) = some (.v (.int c3)) := fun h => hn1 _ _ h ec3
  have g4 : ∀ h, opB .mul h (.v (.int wh)) (.v (.int c2)) = some (.v (.int m0)) := fun h => by rw [em0]; exact mul_I (smallI_of (by omega) (by omega))
  have g5 : ∀ h, opB .add h (.v (.int c1)) (.v (.int m0)) = some (.v (.int m1)) := fun h => by rw [em1]; rfl
  have g6 : ∀ h, opB .add h (.v (.int m1)) (.v (.int c3)) = some (.v (.int many)) := fun h => by rw [emany]; rfl
  have lcs : ∀ (k : Bool) (j : Int) (h : Hd), k = decide (j ∈ s) → (k = true → some (T.int 1) = (if j ∈ s then some (T.int 1) else none)) ∧ (k = false → none = (if j ∈ s then some (T.int 1) else none)) := fun k j h e => ⟨fun z => by rw [z] at e; rw [if_pos (of_decide_eq_true e.symm)], fun z => by rw [z] at e; rw [if_neg (of_decide_eq_false e.symm)]⟩
  with_reducible apply ss_consW
  repeat' (first | ((with_reducible apply w_slot); rfl) | (with_reducible apply w_non) | (with_reducible apply w_bl) | (with_reducible apply w_int) | (with_reducible apply w_str) | (with_reducible apply w_tup) | (with_reducible apply w_lst) | (with_reducible apply w_nil) | (with_reducible apply w_cons) | (with_reducible apply w_star) | (with_reducible apply w_bin) | (with_reducible apply w_cmp) | (with_reducible apply w_chain) | (with_reducible apply w_isN) | (with_reducible apply w_notN) | (with_reducible apply w_andW) | (with_reducible apply w_orW) | (with_reducible apply w_not) | (with_reducible apply w_neg) | (with_reducible apply w_ite) | (with_reducible apply w_f1) | (with_reducible apply w_f2) | (with_reducible apply w_isi) | (with_reducible apply w_ix) | (with_reducible apply w_slAll) | (with_reducible apply w_slL) | (with_reducible apply w_slU) | (with_reducible apply w_slLU) | (with_reducible apply w_pop0) | (with_reducible apply w_meth1) | (with_reducible apply w_lcA) | (with_reducible apply w_lsR1) | (with_reducible apply w_lsR2) | (with_reducible apply w_lsZ) | (with_reducible apply w_srtSet) | (with_reducible apply i_seqW) | (with_reducible apply i_rng1W) | (with_reducible apply i_rng2W) | (with_reducible apply i_enumW) | (with_reducible apply i_zipW) | (with_reducible apply s_exprW) | (with_reducible apply s_retW) | (with_reducible apply s_retNW) | (with_reducible apply s_asgW) | (with_reducible apply s_asgT) | (with_reducible apply s_parW) | (with_reducible apply s_iteW) | (with_reducible apply ss_nilW) | (with_reducible apply w_call) | (with_reducible apply WL.v) | (with_reducible apply WL.l) | ((with_reducible apply exW); (with_reducible exact hbA _)) | ((with_reducible apply exW); first | (with_reducible exact eq_i) | (with_reducible exact eq_I) | (with_reducible exact ne_I) | (with_reducible exact ne_i) | (with_reducible exact len_I) | (with_reducible exact sl_last) | (with_reducible exact sl_take (by omega)) | (with_reducible exact sl_drop (by omega)) | (with_reducible exact mod_I (by omega)) | (with_reducible exact div_I (by omega) (by omega)) | (with_reducible exact cat_I (by omega))) | ((with_reducible apply fewW); (focus ((show _ ≤ 16777216); simp; done))) | ((with_reducible apply exW2); rfl) | ((with_reducible apply exW); rfl) | (exfalso; revert hk; decide) | (exfalso; revert hk; simp; done) | intro hk)
  refine ⟨p.1, T.int, fun j => if j ∈ s then some (.int 1) else none, fix_tp, by show p.1.length < 100000; omega, by show 100000 ≤ 16777216; omega, fun j hj => ⟨_, rfl, c_oneW ?_⟩, ?_⟩
  · repeat' (first | ((with_reducible apply w_slot); rfl) | (with_reducible apply w_non) | (with_reducible apply w_bl) | (with_reducible apply w_int) | (with_reducible apply w_str) | (with_reducible apply w_tup) | (with_reducible apply w_lst) | (with_reducible apply w_nil) | (with_reducible apply w_cons) | (with_reducible apply w_star) | (with_reducible apply w_bin) | (with_reducible apply w_cmp) | (with_reducible apply w_chain) | (with_reducible apply w_isN) | (with_reducible apply w_notN) | (with_reducible apply w_andW) | (with_reducible apply w_orW) | (with_reducible apply w_not) | (with_reducible apply w_neg) | (with_reducible apply w_ite) | (with_reducible apply w_f1) | (with_reducible apply w_f2) | (with_reducible apply w_isi) | (with_reducible apply w_ix) | (with_reducible apply w_slAll) | (with_reducible apply w_slL) | (with_reducible apply w_slU) | (with_reducible apply w_slLU) | (with_reducible apply w_pop0) | (with_reducible apply w_meth1) | (with_reducible apply w_lcA) | (with_reducible apply w_lsR1) | (with_reducible apply w_lsR2) | (with_reducible apply w_lsZ) | (with_reducible apply w_srtSet) | (with_reducible apply i_seqW) | (with_reducible apply i_rng1W) | (with_reducible apply i_rng2W) | (with_reducible apply i_enumW) | (with_reducible apply i_zipW) | (with_reducible apply s_exprW) | (with_reducible apply s_retW) | (with_reducible apply s_retNW) | (with_reducible apply s_asgW) | (with_reducible apply s_asgT) | (with_reducible apply s_parW) | (with_reducible apply s_iteW) | (with_reducible apply ss_nilW) | (with_reducible apply w_call) | (with_reducible apply WL.v) | (with_reducible apply WL.l) | ((with_reducible apply exW); (with_reducible exact in_I rfl)) | ((with_reducible apply exW); first | (with_reducible exact eq_i) | (with_reducible exact eq_I) | (with_reducible exact ne_I) | (with_reducible exact ne_i) | (with_reducible exact len_I) | (with_reducible exact sl_last) | (with_reducible exact sl_take (by omega)) | (with_reducible exact sl_drop (by omega)) | (with_reducible exact mod_I (by omega)) | (with_reducible exact div_I (by omega) (by omega)) | (with_reducible exact cat_I (by omega))) | ((with_reducible apply fewW); (focus ((show _ ≤ 16777216); simp; done))) | ((with_reducible apply exW2); rfl) | ((with_reducible apply exW); rfl) | (exfalso; revert hk; decide) | (exfalso; revert hk; simp; done) | intro hk)
    all_goals first
      | exact ⟨(lcs _ j h rfl).1 hk, rfl⟩
      | exact ⟨(lcs _ j h rfl).2 hk, rfl⟩
  repeat' (first | ((with_reducible apply w_slot); rfl) | (with_reducible apply w_non) | (with_reducible apply w_bl) | (with_reducible apply w_int) | (with_reducible apply w_str) | (with_reducible apply w_tup) | (with_reducible apply w_lst) | (with_reducible apply w_nil) | (with_reducible apply w_cons) | (with_reducible apply w_star) | (with_reducible apply w_bin) | (with_reducible apply w_cmp) | (with_reducible apply w_chain) | (with_reducible apply w_isN) | (with_reducible apply w_notN) | (with_reducible apply w_andW) | (with_reducible apply w_orW) | (with_reducible apply w_not) | (with_reducible apply w_neg) | (with_reducible apply w_ite) | (with_reducible apply w_f1) | (with_reducible apply w_f2) | (with_reducible apply w_isi) | (with_reducible apply w_ix) | (with_reducible apply w_slAll) | (with_reducible apply w_slL) | (with_reducible apply w_slU) | (with_reducible apply w_slLU) | (with_reducible apply w_pop0) | (with_reducible apply w_meth1) | (with_reducible apply w_lcA) | (with_reducible apply w_lsR1) | (with_reducible apply w_lsR2) | (with_reducible apply w_lsZ) | (with_reducible apply w_srtSet) | (with_reducible apply i_seqW) | (with_reducible apply i_rng1W) | (with_reducible apply i_rng2W) | (with_reducible apply i_enumW) | (with_reducible apply i_zipW) | (with_reducible apply s_exprW) | (with_reducible apply s_retW) | (with_reducible apply s_retNW) | (with_reducible apply s_asgW) | (with_reducible apply s_asgT) | (with_reducible apply s_parW) | (with_reducible apply s_iteW) | (with_reducible apply ss_nilW) | (with_reducible apply w_call) | (with_reducible apply WL.v) | (with_reducible apply WL.l) | ((with_reducible apply exW); (with_reducible first | exact g1 _ | exact hbB _)) | ((with_reducible apply exW); first | (with_reducible exact eq_i) | (with_reducible exact eq_I) | (with_reducible exact ne_I) | (with_reducible exact ne_i) | (with_reducible exact len_I) | (with_reducible exact sl_last) | (with_reducible exact sl_take (by omega)) | (with_reducible exact sl_drop (by omega)) | (with_reducible exact mod_I (by omega)) | (with_reducible exact div_I (by omega) (by omega)) | (with_reducible exact cat_I (by omega))) | ((with_reducible apply fewW); (focus ((show _ ≤ 16777216); simp; done))) | ((with_reducible apply exW2); rfl) | ((with_reducible apply exW); rfl) | (exfalso; revert hk; decide) | (exfalso; revert hk; simp; done) | intro hk)
  refine ⟨p.2, T.int, fun j => if j ∈ s then some (.int 1) else none, fix_tp, by show p.2.length < 100000; omega, by show 100000 ≤ 16777216; omega, fun j hj => ⟨_, rfl, c_oneW ?_⟩, ?_⟩
  · repeat' (first | ((with_reducible apply w_slot); rfl) | (with_reducible apply w_non) | (with_reducible apply w_bl) | (with_reducible apply w_int) | (with_reducible apply w_str) | (with_reducible apply w_tup) | (with_reducible apply w_lst) | (with_reducible apply w_nil) | (with_reducible apply w_cons) | (with_reducible apply w_star) | (with_reducible apply w_bin) | (with_reducible apply w_cmp) | (with_reducible apply w_chain) | (with_reducible apply w_isN) | (with_reducible apply w_notN) | (with_reducible apply w_andW) | (with_reducible apply w_orW) | (with_reducible apply w_not) | (with_reducible apply w_neg) | (with_reducible apply w_ite) | (with_reducible apply w_f1) | (with_reducible apply w_f2) | (with_reducible apply w_isi) | (with_reducible apply w_ix) | (with_reducible apply w_slAll) | (with_reducible apply w_slL) | (with_reducible apply w_slU) | (with_reducible apply w_slLU) | (with_reducible apply w_pop0) | (with_reducible apply w_meth1) | (with_reducible apply w_lcA) | (with_reducible apply w_lsR1) | (with_reducible apply w_lsR2) | (with_reducible apply w_lsZ) | (with_reducible apply w_srtSet) | (with_reducible apply i_seqW) | (with_reducible apply i_rng1W) | (with_reducible apply i_rng2W) | (with_reducible apply i_enumW) | (with_reducible apply i_zipW) | (with_reducible apply s_exprW) | (with_reducible apply s_retW) | (with_reducible apply s_retNW) | (with_reducible apply s_asgW) | (with_reducible apply s_asgT) | (with_reducible apply s_parW) | (with_reducible apply s_iteW) | (with_reducible apply ss_nilW) | (with_reducible apply w_call) | (with_reducible apply WL.v) | (with_reducible apply WL.l) | ((with_reducible apply exW); (with_reducible exact in_I rfl)) | ((with_reducible apply exW); first | (with_reducible exact eq_i) | (with_reducible exact eq_I) | (with_reducible exact ne_I) | (with_reducible exact ne_i) | (with_reducible exact len_I) | (with_reducible exact sl_last) | (with_reducible exact sl_take (by omega)) | (with_reducible exact sl_drop (by omega)) | (with_reducible exact mod_I (by omega)) | (with_reducible exact div_I (by omega) (by omega)) | (with_reducible exact cat_I (by omega))) | ((with_reducible apply fewW); (focus ((show _ ≤ 16777216); simp; done))) | ((with_reducible apply exW2); rfl) | ((with_reducible apply exW); rfl) | (exfalso; revert hk; decide) | (exfalso; revert hk; simp; done) | intro hk)
    all_goals first
      | exact ⟨(lcs _ j h rfl).1 hk, rfl⟩
      | exact ⟨(lcs _ j h rfl).2 hk, rfl⟩
  repeat' (first | ((with_reducible apply w_slot); rfl) | (with_reducible apply w_non) | (with_reducible apply w_bl) | (with_reducible apply w_int) | (with_reducible apply w_str) | (with_reducible apply w_tup) | (with_reducible apply w_lst) | (with_reducible apply w_nil) | (with_reducible apply w_cons) | (with_reducible apply w_star) | (with_reducible apply w_bin) | (with_reducible apply w_cmp) | (with_reducible apply w_chain) | (with_reducible apply w_isN) | (with_reducible apply w_notN) | (with_reducible apply w_andW) | (with_reducible apply w_orW) | (with_reducible apply w_not) | (with_reducible apply w_neg) | (with_reducible apply w_ite) | (with_reducible apply w_f1) | (with_reducible apply w_f2) | (with_reducible apply w_isi) | (with_reducible apply w_ix) | (with_reducible apply w_slAll) | (with_reducible apply w_slL) | (with_reducible apply w_slU) | (with_reducible apply w_slLU) | (with_reducible apply w_pop0) | (with_reducible apply w_meth1) | (with_reducible apply w_lcA) | (with_reducible apply w_lsR1) | (with_reducible apply w_lsR2) | (with_reducible apply w_lsZ) | (with_reducible apply w_srtSet) | (with_reducible apply i_seqW) | (with_reducible apply i_rng1W) | (with_reducible apply i_rng2W) | (with_reducible apply i_enumW) | (with_reducible apply i_zipW) | (with_reducible apply s_exprW) | (with_reducible apply s_retW) | (with_reducible apply s_retNW) | (with_reducible apply s_asgW) | (with_reducible apply s_asgT) | (with_reducible apply s_parW) | (with_reducible apply s_iteW) | (with_reducible apply ss_nilW) | (with_reducible apply w_call) | (with_reducible apply WL.v) | (with_reducible apply WL.l) | ((with_reducible apply exW); (with_reducible first | exact g2 _ | exact g4 _ | exact g5 _ | exact hsU _)) | ((with_reducible apply exW); first | (with_reducible exact eq_i) | (with_reducible exact eq_I) | (with_reducible exact ne_I) | (with_reducible exact ne_i) | (with_reducible exact len_I) | (with_reducible exact sl_last) | (with_reducible exact sl_take (by omega)) | (with_reducible exact sl_drop (by omega)) | (with_reducible exact mod_I (by omega)) | (with_reducible exact div_I (by omega) (by omega)) | (with_reducible exact cat_I (by omega))) | ((with_reducible apply fewW); (focus ((show _ ≤ 16777216); simp; done))) | ((with_reducible apply exW2); rfl) | ((with_reducible apply exW); rfl) | (exfalso; revert hk; decide) | (exfalso; revert hk; simp; done) | intro hk)
  refine ⟨p.2.take rs.toNat, T.int, fun j => if j ∈ s then some (.int 1) else none, fix_tp, by show (p.2.take rs.toNat).length < 100000; rw [List.length_take]; omega, by show 100000 ≤ 16777216; omega, fun j hj => ⟨_, rfl, c_oneW ?_⟩, ?_⟩
  · repeat' (first | ((with_reducible apply w_slot); rfl) | (with_reducible apply w_non) | (with_reducible apply w_bl) | (with_reducible apply w_int) | (with_reducible apply w_str) | (with_reducible apply w_tup) | (with_reducible apply w_lst) | (with_reducible apply w_nil) | (with_reducible apply w_cons) | (with_reducible apply w_star) | (with_reducible apply w_bin) | (with_reducible apply w_cmp) | (with_reducible apply w_chain) | (with_reducible apply w_isN) | (with_reducible apply w_notN) | (with_reducible apply w_andW) | (with_reducible apply w_orW) | (with_reducible apply w_not) | (with_reducible apply w_neg) | (with_reducible apply w_ite) | (with_reducible apply w_f1) | (with_reducible apply w_f2) | (with_reducible apply w_isi) | (with_reducible apply w_ix) | (with_reducible apply w_slAll) | (with_reducible apply w_slL) | (with_reducible apply w_slU) | (with_reducible apply w_slLU) | (with_reducible apply w_pop0) | (with_reducible apply w_meth1) | (with_reducible apply w_lcA) | (with_reducible apply w_lsR1) | (with_reducible apply w_lsR2) | (with_reducible apply w_lsZ) | (with_reducible apply w_srtSet) | (with_reducible apply i_seqW) | (with_reducible apply i_rng1W) | (with_reducible apply i_rng2W) | (with_reducible apply i_enumW) | (with_reducible apply i_zipW) | (with_reducible apply s_exprW) | (with_reducible apply s_retW) | (with_reducible apply s_retNW) | (with_reducible apply s_asgW) | (with_reducible apply s_asgT) | (with_reducible apply s_parW) | (with_reducible apply s_iteW) | (with_reducible apply ss_nilW) | (with_reducible apply w_call) | (with_reducible apply WL.v) | (with_reducible apply WL.l) | ((with_reducible apply exW); (with_reducible exact in_I rfl)) | ((with_reducible apply exW); first | (with_reducible exact eq_i) | (with_reducible exact eq_I) | (with_reducible exact ne_I) | (with_reducible exact ne_i) | (with_reducible exact len_I) | (with_reducible exact sl_last) | (with_reducible exact sl_take (by omega)) | (with_reducible exact sl_drop (by omega)) | (with_reducible exact mod_I (by omega)) | (with_reducible exact div_I (by omega) (by omega)) | (with_reducible exact cat_I (by omega))) | ((with_reducible apply fewW); (focus ((show _ ≤ 16777216); simp; done))) | ((with_reducible apply exW2); rfl) | ((with_reducible apply exW); rfl) | (exfalso; revert hk; decide) | (exfalso; revert hk; simp; done) | intro hk)
    all_goals first
      | exact ⟨(lcs _ j h rfl).1 hk, rfl⟩
      | exact ⟨(lcs _ j h rfl).2 hk, rfl⟩
  repeat' (first | ((with_reducible apply w_slot); rfl) | (with_reducible apply w_non) | (with_reducible apply w_bl) | (with_reducible apply w_int) | (with_reducible apply w_str) | (with_reducible apply w_tup) | (with_reducible apply w_lst) | (with_reducible apply w_nil) | (with_reducible apply w_cons) | (with_reducible apply w_star) | (with_reducible apply w_bin) | (with_reducible apply w_cmp) | (with_reducible apply w_chain) | (with_reducible apply w_isN) | (with_reducible apply w_notN) | (with_reducible apply w_andW) | (with_reducible apply w_orW) | (with_reducible apply w_not) | (with_reducible apply w_neg) | (with_reducible apply w_ite) | (with_reducible apply w_f1) | (with_reducible apply w_f2) | (with_reducible apply w_isi) | (with_reducible apply w_ix) | (with_reducible apply w_slAll) | (with_reducible apply w_slL) | (with_reducible apply w_slU) | (with_reducible apply w_slLU) | (with_reducible apply w_pop0) | (with_reducible apply w_meth1) | (with_reducible apply w_lcA) | (with_reducible apply w_lsR1) | (with_reducible apply w_lsR2) | (with_reducible apply w_lsZ) | (with_reducible apply w_srtSet) | (with_reducible apply i_seqW) | (with_reducible apply i_rng1W) | (with_reducible apply i_rng2W) | (with_reducible apply i_enumW) | (with_reducible apply i_zipW) | (with_reducible apply s_exprW) | (with_reducible apply s_retW) | (with_reducible apply s_retNW) | (with_reducible apply s_asgW) | (with_reducible apply s_asgT) | (with_reducible apply s_parW) | (with_reducible apply s_iteW) | (with_reducible apply ss_nilW) | (with_reducible apply w_call) | (with_reducible apply WL.v) | (with_reducible apply WL.l) | ((with_reducible apply exW); (with_reducible first | exact g3 _ | exact g6 _)) | ((with_reducible apply exW); first | (with_reducible exact eq_i) | (with_reducible exact eq_I) | (with_reducible exact ne_I) | (with_reducible exact ne_i) | (with_reducible exact len_I) | (with_reducible exact sl_last) | (with_reducible exact sl_take (by omega)) | (with_reducible exact sl_drop (by omega)) | (with_reducible exact mod_I (by omega)) | (with_reducible exact div_I (by omega) (by omega)) | (with_reducible exact cat_I (by omega))) | ((with_reducible apply fewW); (focus ((show _ ≤ 16777216); simp; done))) | ((with_reducible apply exW2); rfl) | ((with_reducible apply exW); rfl) | (exfalso; revert hk; decide) | (exfalso; revert hk; simp; done) | intro hk)
  obtain ⟨x, hx, _⟩ := e_letterAt 16 p lok far (by omega) (by omega) h
  have hxb : p.2[((far - A - 1) % B).toNat]? = some x := by
    rw [← hx]
    unfold word
    rw [if_neg (by omega)]
    congr 1
    have e : far - A - 1 = (((far - 1).toNat - p.1.length : Nat) : Int) := by omega
    rw [e, eB, ← Int.natCast_emod, Int.toNat_natCast]
  have g7 : ∀ h, opIx h (.v bT) (.v (.int ((far - A - 1) % B))) = some (.v (.int x)) := fun h => by rw [ebT]; exact ix_nat (Int.emod_nonneg _ (by omega)) hxb
  with_reducible apply ss_consW
  repeat' (first | ((with_reducible apply w_slot); rfl) | (with_reducible apply w_non) | (with_reducible apply w_bl) | (with_reducible apply w_int) | (with_reducible apply w_str) | (with_reducible apply w_tup) | (with_reducible apply w_lst) | (with_reducible apply w_nil) | (with_reducible apply w_cons) | (with_reducible apply w_star) | (with_reducible apply w_bin) | (with_reducible apply w_cmp) | (with_reducible apply w_chain) | (with_reducible apply w_isN) | (with_reducible apply w_notN) | (with_reducible apply w_andW) | (with_reducible apply w_orW) | (with_reducible apply w_not) | (with_reducible apply w_neg) | (with_reducible apply w_ite) | (with_reducible apply w_f1) | (with_reducible apply w_f2) | (with_reducible apply w_isi) | (with_reducible apply w_ix) | (with_reducible apply w_slAll) | (with_reducible apply w_slL) | (with_reducible apply w_slU) | (with_reducible apply w_slLU) | (with_reducible apply w_pop0) | (with_reducible apply w_meth1) | (with_reducible apply w_lcA) | (with_reducible apply w_lsR1) | (with_reducible apply w_lsR2) | (with_reducible apply w_lsZ) | (with_reducible apply w_srtSet) | (with_reducible apply i_seqW) | (with_reducible apply i_rng1W) | (with_reducible apply i_rng2W) | (with_reducible apply i_enumW) | (with_reducible apply i_zipW) | (with_reducible apply s_exprW) | (with_reducible apply s_retW) | (with_reducible apply s_retNW) | (with_reducible apply s_asgW) | (with_reducible apply s_asgT) | (with_reducible apply s_parW) | (with_reducible apply s_iteW) | (with_reducible apply ss_nilW) | (with_reducible apply w_call) | (with_reducible apply WL.v) | (with_reducible apply WL.l) | ((with_reducible apply exW); (with_reducible first | exact hlA _ | exact hlB _ | exact g7 _)) | ((with_reducible apply exW); first | (with_reducible exact eq_i) | (with_reducible exact eq_I) | (with_reducible exact ne_I) | (with_reducible exact ne_i) | (with_reducible exact len_I) | (with_reducible exact sl_last) | (with_reducible exact sl_take (by omega)) | (with_reducible exact sl_drop (by omega)) | (with_reducible exact mod_I (by omega)) | (with_reducible exact div_I (by omega) (by omega)) | (with_reducible exact cat_I (by omega))) | ((with_reducible apply fewW); (focus ((show _ ≤ 16777216); simp; done))) | ((with_reducible apply exW2); rfl) | ((with_reducible apply exW); rfl) | (exfalso; revert hk; decide) | (exfalso; revert hk; simp; done) | intro hk)
  obtain ⟨low, elow⟩ : ∃ low : Int, low = many - (if decide (x ∈ s) = true then 1 else 0) := ⟨_, rfl⟩
  have hlow : often p s (far - 1) = low := by
    rw [often_step s o.ne (by omega) (x := x) (by rw [← eA, ← eB]; exact hxb), elow, em]
    by_cases hin : x ∈ s
    · rw [if_pos hin, if_pos (decide_eq_true hin)]
    · rw [if_neg hin, if_neg (by rw [decide_eq_false hin]; simp)]
  have k1 : ∀ h, cl (21 + 2) "_law_lists" [tI s] h = .ok (.ref h.next) (h.new (.lst (ti s))) := fun h => e_li1 21 s (by omega) h
  have k2 : ∀ h : Hd, cl (16 + 7) "how_often_to" [las p, .ref h.next, .int far] (h.new (.lst (ti s))) = .ok (.int many) (h.new (.lst (ti s))) := fun h => by
    rw [em]
    exact e_oftenr 16 p lok s ls far (by omega) (by omega) h.next _ get_new_same
  have k3 : ∀ h, cl (20 + 3) "_law_lists" [las p] h = .ok (.ref (h.next + 2)) (li2 h p.1 p.2) := fun h => e_li2 20 p.1 p.2 (by omega) (by omega) h
  have k4 : ∀ h : Hd, cl (16 + 7) "letter_at" [.ref (h.next + 2), .int far] (li2 h p.1 p.2) = .ok (.int x) (li2 h p.1 p.2) := fun h => by
    obtain ⟨x', hx', e⟩ := e_letterAtr 16 p lok far (by omega) (by omega) (h.next + 2) h.next (h.next + 1) (li2 h p.1 p.2) li2_c li2_a li2_b
    rw [hx] at hx'
    cases hx'
    exact e
  have k5 : ∀ h, cl (16 + 7) "how_often_to" [las p, tI s, .int (far - 1)] h = .ok (.int low) h := fun h => by
    rw [← hlow]
    exact e_often 16 p lok s ls (far - 1) (by omega) (by omega) h
  have k6 : ∀ h, cl (16 + 7) "how_often_to" [las p, .tup [.int 1, .int 2, .int 3], .int far] h = .ok (.int far) h := fun h => by
    have := e_often 16 p lok [1, 2, 3] lt123 far (by omega) (by omega) h
    rw [often_all o.ne o.i1 o.i2 hfa] at this
    exact this
  have k7 : ∀ h, cl (16 + 7) "how_often_to" [las p, tI s, .int 0] h = .ok (.int 0) h := fun h => by
    have := e_often 16 p lok s ls 0 (by omega) (by omega) h
    rw [often_zero] at this
    exact this
  with_reducible apply ss_consW
  repeat' (first | ((with_reducible apply w_slot); rfl) | (with_reducible apply w_non) | (with_reducible apply w_bl) | (with_reducible apply w_int) | (with_reducible apply w_str) | (with_reducible apply w_tup) | (with_reducible apply w_lst) | (with_reducible apply w_nil) | (with_reducible apply w_cons) | (with_reducible apply w_star) | (with_reducible apply w_bin) | (with_reducible apply w_cmp) | (with_reducible apply w_chain) | (with_reducible apply w_isN) | (with_reducible apply w_notN) | (with_reducible apply w_andW) | (with_reducible apply w_orW) | (with_reducible apply w_not) | (with_reducible apply w_neg) | (with_reducible apply w_ite) | (with_reducible apply w_f1) | (with_reducible apply w_f2) | (with_reducible apply w_isi) | (with_reducible apply w_ix) | (with_reducible apply w_slAll) | (with_reducible apply w_slL) | (with_reducible apply w_slU) | (with_reducible apply w_slLU) | (with_reducible apply w_pop0) | (with_reducible apply w_meth1) | (with_reducible apply w_lcA) | (with_reducible apply w_lsR1) | (with_reducible apply w_lsR2) | (with_reducible apply w_lsZ) | (with_reducible apply w_srtSet) | (with_reducible apply i_seqW) | (with_reducible apply i_rng1W) | (with_reducible apply i_rng2W) | (with_reducible apply i_enumW) | (with_reducible apply i_zipW) | (with_reducible apply s_exprW) | (with_reducible apply s_retW) | (with_reducible apply s_retNW) | (with_reducible apply s_asgW) | (with_reducible apply s_asgT) | (with_reducible apply s_parW) | (with_reducible apply s_iteW) | (with_reducible apply ss_nilW) | (with_reducible apply w_call) | (with_reducible apply WL.v) | (with_reducible apply WL.l) | ((with_reducible apply WE.cl); (exact k1 _)) | ((with_reducible apply WE.cl); (exact k2 _)) | ((with_reducible apply WE.cl); (exact k3 _)) | ((with_reducible apply WE.cl); (exact k4 _)) | ((with_reducible apply WE.cl); (exact k5 _)) | ((with_reducible apply WE.cl); (exact k6 _)) | ((with_reducible apply exW); first | (with_reducible exact eq_i) | (with_reducible exact eq_I) | (with_reducible exact ne_I) | (with_reducible exact ne_i) | (with_reducible exact len_I) | (with_reducible exact sl_last) | (with_reducible exact sl_take (by omega)) | (with_reducible exact sl_drop (by omega)) | (with_reducible exact mod_I (by omega)) | (with_reducible exact div_I (by omega) (by omega)) | (with_reducible exact cat_I (by omega))) | ((with_reducible apply fewW); (focus ((show _ ≤ 16777216); simp; done))) | ((with_reducible apply exW2); rfl) | ((with_reducible apply exW); rfl) | (exfalso; revert hk; decide) | (exfalso; revert hk; simp; done) | intro hk)
  have bx1 : Box i n ((li2 (h.new (.lst (ti s))) p.1 p.2).new (.lst [.int many, .int x, .int low, .int far])) := bx.new.li2.new
  have gq : ((li2 (h.new (.lst (ti s))) p.1 p.2).new (.lst [.int many, .int x, .int low, .int far])).get (li2 (h.new (.lst (ti s))) p.1 p.2).next = some (.lst [.int many, .int x, .int low, .int far]) := get_new_same
  show WS (evSs P23 _ [o0, some (.ref i), some (.int far), some (.int many), some (.int x), some (.ref (li2 (h.new (.lst (ti s))) p.1 p.2).next), o6, o7, o8, o9, o10, o11, some (las p), some (tI s), some aT, some bT, some (.int wh), some (.int rs), o18, o19] ((li2 (h.new (.lst (ti s))) p.1 p.2).new (.lst [.int many, .int x, .int low, .int far]))) DT
  generalize (li2 (h.new (.lst (ti s))) p.1 p.2).new (.lst [.int many, .int x, .int low, .int far]) = h1 at bx1 gq
  generalize (li2 (h.new (.lst (ti s))) p.1 p.2).next = q at gq
  have hcat : opB .add h1 (.v (.ref q)) (.l [.int 0]) = some (.l [.int many, .int x, .int low, .int far, .int 0]) := by
    have e : itemsM h1 (.v (.ref q)) = some [.int many, .int x, .int low, .int far] := by
      show (match h1.get q with | some (.lst ts) => some ts | _ => none) = _
      rw [gq]
    show (match Bop.add, itemsM h1 (.v (.ref q)), itemsM h1 (.l [.int 0]) with | .add, some xs, some ys => (Pv.cat xs ys).map VV.l | _, _, _ => none) = _
    rw [e]
    rfl
  with_reducible apply ss_consW
  repeat' (first | ((with_reducible apply w_slot); rfl) | (with_reducible apply w_non) | (with_reducible apply w_bl) | (with_reducible apply w_int) | (with_reducible apply w_str) | (with_reducible apply w_tup) | (with_reducible apply w_lst) | (with_reducible apply w_nil) | (with_reducible apply w_cons) | (with_reducible apply w_star) | (with_reducible apply w_bin) | (with_reducible apply w_cmp) | (with_reducible apply w_chain) | (with_reducible apply w_isN) | (with_reducible apply w_notN) | (with_reducible apply w_andW) | (with_reducible apply w_orW) | (with_reducible apply w_not) | (with_reducible apply w_neg) | (with_reducible apply w_ite) | (with_reducible apply w_f1) | (with_reducible apply w_f2) | (with_reducible apply w_isi) | (with_reducible apply w_ix) | (with_reducible apply w_slAll) | (with_reducible apply w_slL) | (with_reducible apply w_slU) | (with_reducible apply w_slLU) | (with_reducible apply w_pop0) | (with_reducible apply w_meth1) | (with_reducible apply w_lcA) | (with_reducible apply w_lsR1) | (with_reducible apply w_lsR2) | (with_reducible apply w_lsZ) | (with_reducible apply w_srtSet) | (with_reducible apply i_seqW) | (with_reducible apply i_rng1W) | (with_reducible apply i_rng2W) | (with_reducible apply i_enumW) | (with_reducible apply i_zipW) | (with_reducible apply s_exprW) | (with_reducible apply s_retW) | (with_reducible apply s_retNW) | (with_reducible apply s_asgW) | (with_reducible apply s_asgT) | (with_reducible apply s_parW) | (with_reducible apply s_iteW) | (with_reducible apply ss_nilW) | (with_reducible apply w_call) | (with_reducible apply WL.v) | (with_reducible apply WL.l) | ((with_reducible apply WE.cl); (exact k7 _)) | ((with_reducible apply exW); (with_reducible exact hcat)) | ((with_reducible apply exW); first | (with_reducible exact eq_i) | (with_reducible exact eq_I) | (with_reducible exact ne_I) | (with_reducible exact ne_i) | (with_reducible exact len_I) | (with_reducible exact sl_last) | (with_reducible exact sl_take (by omega)) | (with_reducible exact sl_drop (by omega)) | (with_reducible exact mod_I (by omega)) | (with_reducible exact div_I (by omega) (by omega)) | (with_reducible exact cat_I (by omega))) | ((with_reducible apply fewW); (focus ((show _ ≤ 16777216); simp; done))) | ((with_reducible apply exW2); rfl) | ((with_reducible apply exW); rfl) | (exfalso; revert hk; decide) | (exfalso; revert hk; simp; done) | intro hk)
  have bx2 : Box i n (h1.new (.lst [.int many, .int x, .int low, .int far, .int 0])) := bx1.new
  have gr : (h1.new (.lst [.int many, .int x, .int low, .int far, .int 0])).get h1.next = some (.lst [.int many, .int x, .int low, .int far, .int 0]) := get_new_same
  have hrl : h1.next < (h1.new (.lst [.int many, .int x, .int low, .int far, .int 0])).next := Nat.lt_succ_self _
  show WS (evSs P23 _ [o0, some (.ref i), some (.int far), some (.int many), some (.int x), some (.ref h1.next), o6, o7, o8, o9, o10, o11, some (las p), some (tI s), some aT, some bT, some (.int wh), some (.int rs), o18, o19] (h1.new (.lst [.int many, .int x, .int low, .int far, .int 0]))) DT
  generalize h1.new (.lst [.int many, .int x, .int low, .int far, .int 0]) = h2 at bx2 gr hrl
  generalize h1.next = r at gr hrl
  have hsub : ∀ h, opB .sub h (.v (.int many)) (.v (.int (if decide (x ∈ s) = true then 1 else 0))) = some (.v (.int low)) := fun h => by rw [elow]; rfl
  with_reducible apply ss_consW
  repeat' (first | ((with_reducible apply w_slot); rfl) | (with_reducible apply w_non) | (with_reducible apply w_bl) | (with_reducible apply w_int) | (with_reducible apply w_str) | (with_reducible apply w_tup) | (with_reducible apply w_lst) | (with_reducible apply w_nil) | (with_reducible apply w_cons) | (with_reducible apply w_star) | (with_reducible apply w_bin) | (with_reducible apply w_cmp) | (with_reducible apply w_chain) | (with_reducible apply w_isN) | (with_reducible apply w_notN) | (with_reducible apply w_andW) | (with_reducible apply w_orW) | (with_reducible apply w_not) | (with_reducible apply w_neg) | (with_reducible apply w_ite) | (with_reducible apply w_f1) | (with_reducible apply w_f2) | (with_reducible apply w_isi) | (with_reducible apply w_ix) | (with_reducible apply w_slAll) | (with_reducible apply w_slL) | (with_reducible apply w_slU) | (with_reducible apply w_slLU) | (with_reducible apply w_pop0) | (with_reducible apply w_meth1) | (with_reducible apply w_lcA) | (with_reducible apply w_lsR1) | (with_reducible apply w_lsR2) | (with_reducible apply w_lsZ) | (with_reducible apply w_srtSet) | (with_reducible apply i_seqW) | (with_reducible apply i_rng1W) | (with_reducible apply i_rng2W) | (with_reducible apply i_enumW) | (with_reducible apply i_zipW) | (with_reducible apply s_exprW) | (with_reducible apply s_retW) | (with_reducible apply s_retNW) | (with_reducible apply s_asgW) | (with_reducible apply s_asgT) | (with_reducible apply s_parW) | (with_reducible apply s_iteW) | (with_reducible apply ss_nilW) | (with_reducible apply w_call) | (with_reducible apply WL.v) | (with_reducible apply WL.l) | ((with_reducible apply exW); (with_reducible first | exact in_I rfl | exact hsub _)) | ((with_reducible apply exW); first | (with_reducible exact eq_i) | (with_reducible exact eq_I) | (with_reducible exact ne_I) | (with_reducible exact ne_i) | (with_reducible exact len_I) | (with_reducible exact sl_last) | (with_reducible exact sl_take (by omega)) | (with_reducible exact sl_drop (by omega)) | (with_reducible exact mod_I (by omega)) | (with_reducible exact div_I (by omega) (by omega)) | (with_reducible exact cat_I (by omega))) | ((with_reducible apply fewW); (focus ((show _ ≤ 16777216); simp; done))) | ((with_reducible apply exW2); rfl) | ((with_reducible apply exW); rfl) | (exfalso; revert hk; decide) | (exfalso; revert hk; simp; done) | intro hk)
  refine WE.cl (e_lsamer 5 17 [.int many, .int x, .int low, .int far, .int 0] rfl (by show max 1 (max 1 (max 1 (max 1 (max 1 0)))) ≤ 5; omega) (by show max 5 (max 0 (max 0 (max 0 (max 0 (max 0 0))))) ≤ 5000; omega) r h2.next _ ?_ ?_) ?_
  · rw [get_new_ne hrl]
    exact gr
  · exact get_new_same
  · repeat' (first | ((with_reducible apply w_slot); rfl) | (with_reducible apply w_non) | (with_reducible apply w_bl) | (with_reducible apply w_int) | (with_reducible apply w_str) | (with_reducible apply w_tup) | (with_reducible apply w_lst) | (with_reducible apply w_nil) | (with_reducible apply w_cons) | (with_reducible apply w_star) | (with_reducible apply w_bin) | (with_reducible apply w_cmp) | (with_reducible apply w_chain) | (with_reducible apply w_isN) | (with_reducible apply w_notN) | (with_reducible apply w_andW) | (with_reducible apply w_orW) | (with_reducible apply w_not) | (with_reducible apply w_neg) | (with_reducible apply w_ite) | (with_reducible apply w_f1) | (with_reducible apply w_f2) | (with_reducible apply w_isi) | (with_reducible apply w_ix) | (with_reducible apply w_slAll) | (with_reducible apply w_slL) | (with_reducible apply w_slU) | (with_reducible apply w_slLU) | (with_reducible apply w_pop0) | (with_reducible apply w_meth1) | (with_reducible apply w_lcA) | (with_reducible apply w_lsR1) | (with_reducible apply w_lsR2) | (with_reducible apply w_lsZ) | (with_reducible apply w_srtSet) | (with_reducible apply i_seqW) | (with_reducible apply i_rng1W) | (with_reducible apply i_rng2W) | (with_reducible apply i_enumW) | (with_reducible apply i_zipW) | (with_reducible apply s_exprW) | (with_reducible apply s_retW) | (with_reducible apply s_retNW) | (with_reducible apply s_asgW) | (with_reducible apply s_asgT) | (with_reducible apply s_parW) | (with_reducible apply s_iteW) | (with_reducible apply ss_nilW) | (with_reducible apply w_call) | (with_reducible apply WL.v) | (with_reducible apply WL.l) | ((with_reducible apply exW); first | (with_reducible exact eq_i) | (with_reducible exact eq_I) | (with_reducible exact ne_I) | (with_reducible exact ne_i) | (with_reducible exact len_I) | (with_reducible exact sl_last) | (with_reducible exact sl_take (by omega)) | (with_reducible exact sl_drop (by omega)) | (with_reducible exact mod_I (by omega)) | (with_reducible exact div_I (by omega) (by omega)) | (with_reducible exact cat_I (by omega))) | ((with_reducible apply fewW); (focus ((show _ ≤ 16777216); simp; done))) | ((with_reducible apply exW2); rfl) | ((with_reducible apply exW); rfl) | (exfalso; revert hk; decide) | (exfalso; revert hk; simp; done) | intro hk)
    exact last _ _ _ _ _ _ _ _ _ _ _ _ _ _ _ bx2.new
end K01
end

section
set_option Elab.async false
set_option linter.all false
set_option maxRecDepth 100000
set_option maxHeartbeats 2000000
namespace K01
open PySem Pv Las
theorem law1b (A B : Int) (p : List Int × List Int) (eA : A = (p.1.length : Nat)) (eB : B = (p.2.length : Nat)) (aT bT lT : T) (eaT : aT = tI p.1) (ebT : bT = tI p.2) (elT : lT = las p) (o : Own p) (s : List Int) (ls : Lt s) (i n : Nat) (hn : n < 400000) (far : Int) (f0 : 1000000000000000000000 ≤ far * 100) (f1 : far ≤ 100000000000000000000000000000)
    (o0 o3 o4 o5 o6 o7 o8 o9 o10 o11 o14 o15 o16 o17 o18 o19 : Option T) (h : Hd) (bx : Box i n h) :
    WS (evSs P23 (sdrop 3 d_law.body) [o0, some (.ref i), some (.int far), o3, o4, o5, o6, o7, o8, o9, o10, o11, some lT, some (tI s), o14, o15, o16, o17, o18, o19] h) DT := by
  have hp : 0 < p.2.length := List.length_pos_iff.mpr o.ne
  have l2 := o.l2
  have last := fun wh rs => law2 A B wh rs p eA eB aT bT eaT ebT o s ls i n hn far f0 f1
  rw [← elT] at last
  dsimp only [sdrop, d_law] at last ⊢
  have hlA : ∀ h, op1 .len h (.v aT) = some (.v (.int A)) := fun h => by rw [eA, eaT]; exact len_I
  have hlB : ∀ h, op1 .len h (.v bT) = some (.v (.int B)) := fun h => by rw [eB, ebT]; exact len_I
  with_reducible apply ss_consW
  with_reducible apply s_asgT
  repeat' (first | ((with_reducible apply w_slot); rfl) | (with_reducible apply w_non) | (with_reducible apply w_bl) | (with_reducible apply w_int) | (with_reducible apply w_str) | (with_reducible apply w_tup) | (with_reducible apply w_lst) | (with_reducible apply w_nil) | (with_reducible apply w_cons) | (with_reducible apply w_star) | (with_reducible apply w_bin) | (with_reducible apply w_cmp) | (with_reducible apply w_chain) | (with_reducible apply w_isN) | (with_reducible apply w_notN) | (with_reducible apply w_andW) | (with_reducible apply w_orW) | (with_reducible apply w_not) | (with_reducible apply w_neg) | (with_reducible apply w_ite) | (with_reducible apply w_f1) | (with_reducible apply w_f2) | (with_reducible apply w_isi) | (with_reducible apply w_ix) | (with_reducible apply w_slAll) | (with_reducible apply w_slL) | (with_reducible apply w_slU) | (with_reducible apply w_slLU) | (with_reducible apply w_pop0) | (with_reducible apply w_meth1) | (with_reducible apply w_lcA) | (with_reducible apply w_lsR1) | (with_reducible apply w_lsR2) | (with_reducible apply w_lsZ) | (with_reducible apply w_srtSet) | (with_reducible apply i_seqW) | (with_reducible apply i_rng1W) | (with_reducible apply i_rng2W) | (with_reducible apply i_enumW) | (with_reducible apply i_zipW) | (with_reducible apply s_exprW) | (with_reducible apply s_retW) | (with_reducible apply s_retNW) | (with_reducible apply s_asgW) | (with_reducible apply s_asgT) | (with_reducible apply s_parW) | (with_reducible apply s_iteW) | (with_reducible apply ss_nilW) | (with_reducible apply w_call) | (with_reducible apply WL.v) | (with_reducible apply WL.l) | ((with_reducible apply exW); first | (with_reducible exact eq_i) | (with_reducible exact eq_I) | (with_reducible exact ne_I) | (with_reducible exact ne_i) | (with_reducible exact len_I) | (with_reducible exact sl_last) | (with_reducible exact sl_take (by omega)) | (with_reducible exact sl_drop (by omega)) | (with_reducible exact mod_I (by omega)) | (with_reducible exact div_I (by omega) (by omega)) | (with_reducible exact cat_I (by omega))) | ((with_reducible apply fewW); (focus ((show _ ≤ 16777216); simp; done))) | ((with_reducible apply exW2); rfl) | ((with_reducible apply exW); rfl) | (exfalso; revert hk; decide) | (exfalso; revert hk; simp; done) | intro hk)
  refine ⟨[o0, some (.ref i), some (.int far), o3, o4, o5, o6, o7, o8, o9, o10, o11, some lT, some (tI s), some aT, some bT, o16, o17, o18, o19], ?_, ?_⟩
  · rw [elT, eaT, ebT] <;> rfl
  with_reducible apply ss_consW
  repeat' (first | ((with_reducible apply w_slot); rfl) | (with_reducible apply w_non) | (with_reducible apply w_bl) | (with_reducible apply w_int) | (with_reducible apply w_str) | (with_reducible apply w_tup) | (with_reducible apply w_lst) | (with_reducible apply w_nil) | (with_reducible apply w_cons) | (with_reducible apply w_star) | (with_reducible apply w_bin) | (with_reducible apply w_cmp) | (with_reducible apply w_chain) | (with_reducible apply w_isN) | (with_reducible apply w_notN) | (with_reducible apply w_andW) | (with_reducible apply w_orW) | (with_reducible apply w_not) | (with_reducible apply w_neg) | (with_reducible apply w_ite) | (with_reducible apply w_f1) | (with_reducible apply w_f2) | (with_reducible apply w_isi) | (with_reducible apply w_ix) | (with_reducible apply w_slAll) | (with_reducible apply w_slL) | (with_reducible apply w_slU) | (with_reducible apply w_slLU) | (with_reducible apply w_pop0) | (with_reducible apply w_meth1) | (with_reducible apply w_lcA) | (with_reducible apply w_lsR1) | (with_reducible apply w_lsR2) | (with_reducible apply w_lsZ) | (with_reducible apply w_srtSet) | (with_reducible apply i_seqW) | (with_reducible apply i_rng1W) | (with_reducible apply i_rng2W) | (with_reducible apply i_enumW) | (with_reducible apply i_zipW) | (with_reducible apply s_exprW) | (with_reducible apply s_retW) | (with_reducible apply s_retNW) | (with_reducible apply s_asgW) | (with_reducible apply s_asgT) | (with_reducible apply s_parW) | (with_reducible apply s_iteW) | (with_reducible apply ss_nilW) | (with_reducible apply w_call) | (with_reducible apply WL.v) | (with_reducible apply WL.l) | ((with_reducible apply exW); (with_reducible first | exact hlA _ | exact hlB _)) | ((with_reducible apply exW); first | (with_reducible exact eq_i) | (with_reducible exact eq_I) | (with_reducible exact ne_I) | (with_reducible exact ne_i) | (with_reducible exact len_I) | (with_reducible exact sl_last) | (with_reducible exact sl_take (by omega)) | (with_reducible exact sl_drop (by omega)) | (with_reducible exact mod_I (by omega)) | (with_reducible exact div_I (by omega) (by omega)) | (with_reducible exact cat_I (by omega))) | ((with_reducible apply fewW); (focus ((show _ ≤ 16777216); simp; done))) | ((with_reducible apply exW2); rfl) | ((with_reducible apply exW); rfl) | (exfalso; revert hk; decide) | (exfalso; revert hk; simp; done) | intro hk)
  exact last _ _ rfl rfl _ _ _ _ _ _ _ _ _ _ _ _ h bx
theorem law1 (ns : List Int) (hns : ns.length ≤ 63) (h : Hd) :
    WS (evSs P23 d_law.body [some (.fl (ti ns)), none, none, none, none, none, none, none, none, none, none, none, none, none, none, none, none, none, none, none] h) DT := by
  have last := law1b
  dsimp only [sdrop, d_law] at last ⊢
  obtain ⟨c, ec⟩ := e_cells 22 ns hns h
  obtain ⟨x, y, eb⟩ := e_box 22 h.next c (h.new (.lst [.int c])) get_new_same
  with_reducible apply ss_consW
  repeat' (first | ((with_reducible apply w_slot); rfl) | (with_reducible apply w_non) | (with_reducible apply w_bl) | (with_reducible apply w_int) | (with_reducible apply w_str) | (with_reducible apply w_tup) | (with_reducible apply w_lst) | (with_reducible apply w_nil) | (with_reducible apply w_cons) | (with_reducible apply w_star) | (with_reducible apply w_bin) | (with_reducible apply w_cmp) | (with_reducible apply w_chain) | (with_reducible apply w_isN) | (with_reducible apply w_notN) | (with_reducible apply w_andW) | (with_reducible apply w_orW) | (with_reducible apply w_not) | (with_reducible apply w_neg) | (with_reducible apply w_ite) | (with_reducible apply w_f1) | (with_reducible apply w_f2) | (with_reducible apply w_isi) | (with_reducible apply w_ix) | (with_reducible apply w_slAll) | (with_reducible apply w_slL) | (with_reducible apply w_slU) | (with_reducible apply w_slLU) | (with_reducible apply w_pop0) | (with_reducible apply w_meth1) | (with_reducible apply w_lcA) | (with_reducible apply w_lsR1) | (with_reducible apply w_lsR2) | (with_reducible apply w_lsZ) | (with_reducible apply w_srtSet) | (with_reducible apply i_seqW) | (with_reducible apply i_rng1W) | (with_reducible apply i_rng2W) | (with_reducible apply i_enumW) | (with_reducible apply i_zipW) | (with_reducible apply s_exprW) | (with_reducible apply s_retW) | (with_reducible apply s_retNW) | (with_reducible apply s_asgW) | (with_reducible apply s_asgT) | (with_reducible apply s_parW) | (with_reducible apply s_iteW) | (with_reducible apply ss_nilW) | (with_reducible apply w_call) | (with_reducible apply WL.v) | (with_reducible apply WL.l) | ((with_reducible apply WE.cl); (exact ec)) | ((with_reducible apply WE.cl); (exact eb)) | ((with_reducible apply exW); first | (with_reducible exact eq_i) | (with_reducible exact eq_I) | (with_reducible exact ne_I) | (with_reducible exact ne_i) | (with_reducible exact len_I) | (with_reducible exact sl_last) | (with_reducible exact sl_take (by omega)) | (with_reducible exact sl_drop (by omega)) | (with_reducible exact mod_I (by omega)) | (with_reducible exact div_I (by omega) (by omega)) | (with_reducible exact cat_I (by omega))) | ((with_reducible apply fewW); (focus ((show _ ≤ 16777216); simp; done))) | ((with_reducible apply exW2); rfl) | ((with_reducible apply exW); rfl) | (exfalso; revert hk; decide) | (exfalso; revert hk; simp; done) | intro hk)
  have bx0 : Box (h.next + 1) 0 ((h.new (.lst [.int c])).new (.lst [.int x, .int y, .int 0])) := ⟨Nat.lt_succ_self _, x, y, 0, get_new_same, Int.le_refl 0, Int.le_refl 0⟩
  show WS (evSs P23 _ [some (.fl (ti ns)), some (.ref (h.next + 1)), none, none, none, none, none, none, none, none, none, none, none, none, none, none, none, none, none, none] ((h.new (.lst [.int c])).new (.lst [.int x, .int y, .int 0]))) DT
  generalize (h.new (.lst [.int c])).new (.lst [.int x, .int y, .int 0]) = h1 at bx0
  generalize h.next + 1 = i at bx0
  with_reducible apply ss_consW
  with_reducible apply s_asgT
  repeat' (first | ((with_reducible apply w_slot); rfl) | (with_reducible apply w_non) | (with_reducible apply w_bl) | (with_reducible apply w_int) | (with_reducible apply w_str) | (with_reducible apply w_tup) | (with_reducible apply w_lst) | (with_reducible apply w_nil) | (with_reducible apply w_cons) | (with_reducible apply w_star) | (with_reducible apply w_bin) | (with_reducible apply w_cmp) | (with_reducible apply w_chain) | (with_reducible apply w_isN) | (with_reducible apply w_notN) | (with_reducible apply w_andW) | (with_reducible apply w_orW) | (with_reducible apply w_not) | (with_reducible apply w_neg) | (with_reducible apply w_ite) | (with_reducible apply w_f1) | (with_reducible apply w_f2) | (with_reducible apply w_isi) | (with_reducible apply w_ix) | (with_reducible apply w_slAll) | (with_reducible apply w_slL) | (with_reducible apply w_slU) | (with_reducible apply w_slLU) | (with_reducible apply w_pop0) | (with_reducible apply w_meth1) | (with_reducible apply w_lcA) | (with_reducible apply w_lsR1) | (with_reducible apply w_lsR2) | (with_reducible apply w_lsZ) | (with_reducible apply w_srtSet) | (with_reducible apply i_seqW) | (with_reducible apply i_rng1W) | (with_reducible apply i_rng2W) | (with_reducible apply i_enumW) | (with_reducible apply i_zipW) | (with_reducible apply s_exprW) | (with_reducible apply s_retW) | (with_reducible apply s_retNW) | (with_reducible apply s_asgW) | (with_reducible apply s_asgT) | (with_reducible apply s_parW) | (with_reducible apply s_iteW) | (with_reducible apply ss_nilW) | (with_reducible apply w_call) | (with_reducible apply WL.v) | (with_reducible apply WL.l) | ((with_reducible apply exW); first | (with_reducible exact eq_i) | (with_reducible exact eq_I) | (with_reducible exact ne_I) | (with_reducible exact ne_i) | (with_reducible exact len_I) | (with_reducible exact sl_last) | (with_reducible exact sl_take (by omega)) | (with_reducible exact sl_drop (by omega)) | (with_reducible exact mod_I (by omega)) | (with_reducible exact div_I (by omega) (by omega)) | (with_reducible exact cat_I (by omega))) | ((with_reducible apply fewW); (focus ((show _ ≤ 16777216); simp; done))) | ((with_reducible apply exW2); rfl) | ((with_reducible apply exW); rfl) | (exfalso; revert hk; decide) | (exfalso; revert hk; simp; done) | intro hk)
  refine WE.imp (e_lasso 20 i 0 h1 (by omega) bx0) ?_
  rintro lT h2 ⟨p, elT, l1, l2, l3, i1, i2, bx2, kp2⟩
  have o : Own p := ⟨l1, l3, fun z => by rw [z] at l2; simp at l2, i1, i2⟩
  repeat' (first | ((with_reducible apply w_slot); rfl) | (with_reducible apply w_non) | (with_reducible apply w_bl) | (with_reducible apply w_int) | (with_reducible apply w_str) | (with_reducible apply w_tup) | (with_reducible apply w_lst) | (with_reducible apply w_nil) | (with_reducible apply w_cons) | (with_reducible apply w_star) | (with_reducible apply w_bin) | (with_reducible apply w_cmp) | (with_reducible apply w_chain) | (with_reducible apply w_isN) | (with_reducible apply w_notN) | (with_reducible apply w_andW) | (with_reducible apply w_orW) | (with_reducible apply w_not) | (with_reducible apply w_neg) | (with_reducible apply w_ite) | (with_reducible apply w_f1) | (with_reducible apply w_f2) | (with_reducible apply w_isi) | (with_reducible apply w_ix) | (with_reducible apply w_slAll) | (with_reducible apply w_slL) | (with_reducible apply w_slU) | (with_reducible apply w_slLU) | (with_reducible apply w_pop0) | (with_reducible apply w_meth1) | (with_reducible apply w_lcA) | (with_reducible apply w_lsR1) | (with_reducible apply w_lsR2) | (with_reducible apply w_lsZ) | (with_reducible apply w_srtSet) | (with_reducible apply i_seqW) | (with_reducible apply i_rng1W) | (with_reducible apply i_rng2W) | (with_reducible apply i_enumW) | (with_reducible apply i_zipW) | (with_reducible apply s_exprW) | (with_reducible apply s_retW) | (with_reducible apply s_retNW) | (with_reducible apply s_asgW) | (with_reducible apply s_asgT) | (with_reducible apply s_parW) | (with_reducible apply s_iteW) | (with_reducible apply ss_nilW) | (with_reducible apply w_call) | (with_reducible apply WL.v) | (with_reducible apply WL.l) | ((with_reducible apply exW); first | (with_reducible exact eq_i) | (with_reducible exact eq_I) | (with_reducible exact ne_I) | (with_reducible exact ne_i) | (with_reducible exact len_I) | (with_reducible exact sl_last) | (with_reducible exact sl_take (by omega)) | (with_reducible exact sl_drop (by omega)) | (with_reducible exact mod_I (by omega)) | (with_reducible exact div_I (by omega) (by omega)) | (with_reducible exact cat_I (by omega))) | ((with_reducible apply fewW); (focus ((show _ ≤ 16777216); simp; done))) | ((with_reducible apply exW2); rfl) | ((with_reducible apply exW); rfl) | (exfalso; revert hk; decide) | (exfalso; revert hk; simp; done) | intro hk)
  refine WE.imp (e_sets 21 i _ h2 bx2) ?_
  rintro _ h3 ⟨m, rfl, gm, hm, hm2, bx3, kp3⟩
  repeat' (first | ((with_reducible apply w_slot); rfl) | (with_reducible apply w_non) | (with_reducible apply w_bl) | (with_reducible apply w_int) | (with_reducible apply w_str) | (with_reducible apply w_tup) | (with_reducible apply w_lst) | (with_reducible apply w_nil) | (with_reducible apply w_cons) | (with_reducible apply w_star) | (with_reducible apply w_bin) | (with_reducible apply w_cmp) | (with_reducible apply w_chain) | (with_reducible apply w_isN) | (with_reducible apply w_notN) | (with_reducible apply w_andW) | (with_reducible apply w_orW) | (with_reducible apply w_not) | (with_reducible apply w_neg) | (with_reducible apply w_ite) | (with_reducible apply w_f1) | (with_reducible apply w_f2) | (with_reducible apply w_isi) | (with_reducible apply w_ix) | (with_reducible apply w_slAll) | (with_reducible apply w_slL) | (with_reducible apply w_slU) | (with_reducible apply w_slLU) | (with_reducible apply w_pop0) | (with_reducible apply w_meth1) | (with_reducible apply w_lcA) | (with_reducible apply w_lsR1) | (with_reducible apply w_lsR2) | (with_reducible apply w_lsZ) | (with_reducible apply w_srtSet) | (with_reducible apply i_seqW) | (with_reducible apply i_rng1W) | (with_reducible apply i_rng2W) | (with_reducible apply i_enumW) | (with_reducible apply i_zipW) | (with_reducible apply s_exprW) | (with_reducible apply s_retW) | (with_reducible apply s_retNW) | (with_reducible apply s_asgW) | (with_reducible apply s_asgT) | (with_reducible apply s_parW) | (with_reducible apply s_iteW) | (with_reducible apply ss_nilW) | (with_reducible apply w_call) | (with_reducible apply WL.v) | (with_reducible apply WL.l) | ((with_reducible apply exW); first | (with_reducible exact eq_i) | (with_reducible exact eq_I) | (with_reducible exact ne_I) | (with_reducible exact ne_i) | (with_reducible exact len_I) | (with_reducible exact sl_last) | (with_reducible exact sl_take (by omega)) | (with_reducible exact sl_drop (by omega)) | (with_reducible exact mod_I (by omega)) | (with_reducible exact div_I (by omega) (by omega)) | (with_reducible exact cat_I (by omega))) | ((with_reducible apply fewW); (focus ((show _ ≤ 16777216); simp; done))) | ((with_reducible apply exW2); rfl) | ((with_reducible apply exW); rfl) | (exfalso; revert hk; decide) | (exfalso; revert hk; simp; done) | intro hk)
  refine WE.imp (e_of 21 i _ m (sets.map tI) h3 (by omega) bx3 gm (by have := bx2.1; omega) hm (by intro z; cases z) (by show 7 < 1000; omega)) ?_
  rintro t h4 ⟨ht, bx4, kp4⟩
  obtain ⟨s, hs, rfl⟩ := List.mem_map.mp ht
  have ls := sets_lt s hs
  repeat' (first | ((with_reducible apply w_slot); rfl) | (with_reducible apply w_non) | (with_reducible apply w_bl) | (with_reducible apply w_int) | (with_reducible apply w_str) | (with_reducible apply w_tup) | (with_reducible apply w_lst) | (with_reducible apply w_nil) | (with_reducible apply w_cons) | (with_reducible apply w_star) | (with_reducible apply w_bin) | (with_reducible apply w_cmp) | (with_reducible apply w_chain) | (with_reducible apply w_isN) | (with_reducible apply w_notN) | (with_reducible apply w_andW) | (with_reducible apply w_orW) | (with_reducible apply w_not) | (with_reducible apply w_neg) | (with_reducible apply w_ite) | (with_reducible apply w_f1) | (with_reducible apply w_f2) | (with_reducible apply w_isi) | (with_reducible apply w_ix) | (with_reducible apply w_slAll) | (with_reducible apply w_slL) | (with_reducible apply w_slU) | (with_reducible apply w_slLU) | (with_reducible apply w_pop0) | (with_reducible apply w_meth1) | (with_reducible apply w_lcA) | (with_reducible apply w_lsR1) | (with_reducible apply w_lsR2) | (with_reducible apply w_lsZ) | (with_reducible apply w_srtSet) | (with_reducible apply i_seqW) | (with_reducible apply i_rng1W) | (with_reducible apply i_rng2W) | (with_reducible apply i_enumW) | (with_reducible apply i_zipW) | (with_reducible apply s_exprW) | (with_reducible apply s_retW) | (with_reducible apply s_retNW) | (with_reducible apply s_asgW) | (with_reducible apply s_asgT) | (with_reducible apply s_parW) | (with_reducible apply s_iteW) | (with_reducible apply ss_nilW) | (with_reducible apply w_call) | (with_reducible apply WL.v) | (with_reducible apply WL.l) | ((with_reducible apply exW); first | (with_reducible exact eq_i) | (with_reducible exact eq_I) | (with_reducible exact ne_I) | (with_reducible exact ne_i) | (with_reducible exact len_I) | (with_reducible exact sl_last) | (with_reducible exact sl_take (by omega)) | (with_reducible exact sl_drop (by omega)) | (with_reducible exact mod_I (by omega)) | (with_reducible exact div_I (by omega) (by omega)) | (with_reducible exact cat_I (by omega))) | ((with_reducible apply fewW); (focus ((show _ ≤ 16777216); simp; done))) | ((with_reducible apply exW2); rfl) | ((with_reducible apply exW); rfl) | (exfalso; revert hk; decide) | (exfalso; revert hk; simp; done) | intro hk)
  with_reducible apply ss_consW
  repeat' (first | ((with_reducible apply w_slot); rfl) | (with_reducible apply w_non) | (with_reducible apply w_bl) | (with_reducible apply w_int) | (with_reducible apply w_str) | (with_reducible apply w_tup) | (with_reducible apply w_lst) | (with_reducible apply w_nil) | (with_reducible apply w_cons) | (with_reducible apply w_star) | (with_reducible apply w_bin) | (with_reducible apply w_cmp) | (with_reducible apply w_chain) | (with_reducible apply w_isN) | (with_reducible apply w_notN) | (with_reducible apply w_andW) | (with_reducible apply w_orW) | (with_reducible apply w_not) | (with_reducible apply w_neg) | (with_reducible apply w_ite) | (with_reducible apply w_f1) | (with_reducible apply w_f2) | (with_reducible apply w_isi) | (with_reducible apply w_ix) | (with_reducible apply w_slAll) | (with_reducible apply w_slL) | (with_reducible apply w_slU) | (with_reducible apply w_slLU) | (with_reducible apply w_pop0) | (with_reducible apply w_meth1) | (with_reducible apply w_lcA) | (with_reducible apply w_lsR1) | (with_reducible apply w_lsR2) | (with_reducible apply w_lsZ) | (with_reducible apply w_srtSet) | (with_reducible apply i_seqW) | (with_reducible apply i_rng1W) | (with_reducible apply i_rng2W) | (with_reducible apply i_enumW) | (with_reducible apply i_zipW) | (with_reducible apply s_exprW) | (with_reducible apply s_retW) | (with_reducible apply s_retNW) | (with_reducible apply s_asgW) | (with_reducible apply s_asgT) | (with_reducible apply s_parW) | (with_reducible apply s_iteW) | (with_reducible apply ss_nilW) | (with_reducible apply w_call) | (with_reducible apply WL.v) | (with_reducible apply WL.l) | ((with_reducible apply exW); first | (with_reducible exact eq_i) | (with_reducible exact eq_I) | (with_reducible exact ne_I) | (with_reducible exact ne_i) | (with_reducible exact len_I) | (with_reducible exact sl_last) | (with_reducible exact sl_take (by omega)) | (with_reducible exact sl_drop (by omega)) | (with_reducible exact mod_I (by omega)) | (with_reducible exact div_I (by omega) (by omega)) | (with_reducible exact cat_I (by omega))) | ((with_reducible apply fewW); (focus ((show _ ≤ 16777216); simp; done))) | ((with_reducible apply exW2); rfl) | ((with_reducible apply exW); rfl) | (exfalso; revert hk; decide) | (exfalso; revert hk; simp; done) | intro hk)
  refine WE.imp (e_take 22 i _ 99 (by omega) (by omega) (by omega) h4 bx4) ?_
  rintro _ h5 ⟨d, rfl, d0, d1, bx5, kp5⟩
  have hmul : ∀ h, opB .mul h (.v (.int ((10 : Int) ^ (20 : Int).toNat))) (.v (.int (1 + d))) = some (.v (.int ((10 : Int) ^ (20 : Int).toNat * (1 + d)))) := fun h => mul_I (smallI_of (by omega) (by omega))
  repeat' (first | ((with_reducible apply w_slot); rfl) | (with_reducible apply w_non) | (with_reducible apply w_bl) | (with_reducible apply w_int) | (with_reducible apply w_str) | (with_reducible apply w_tup) | (with_reducible apply w_lst) | (with_reducible apply w_nil) | (with_reducible apply w_cons) | (with_reducible apply w_star) | (with_reducible apply w_bin) | (with_reducible apply w_cmp) | (with_reducible apply w_chain) | (with_reducible apply w_isN) | (with_reducible apply w_notN) | (with_reducible apply w_andW) | (with_reducible apply w_orW) | (with_reducible apply w_not) | (with_reducible apply w_neg) | (with_reducible apply w_ite) | (with_reducible apply w_f1) | (with_reducible apply w_f2) | (with_reducible apply w_isi) | (with_reducible apply w_ix) | (with_reducible apply w_slAll) | (with_reducible apply w_slL) | (with_reducible apply w_slU) | (with_reducible apply w_slLU) | (with_reducible apply w_pop0) | (with_reducible apply w_meth1) | (with_reducible apply w_lcA) | (with_reducible apply w_lsR1) | (with_reducible apply w_lsR2) | (with_reducible apply w_lsZ) | (with_reducible apply w_srtSet) | (with_reducible apply i_seqW) | (with_reducible apply i_rng1W) | (with_reducible apply i_rng2W) | (with_reducible apply i_enumW) | (with_reducible apply i_zipW) | (with_reducible apply s_exprW) | (with_reducible apply s_retW) | (with_reducible apply s_retNW) | (with_reducible apply s_asgW) | (with_reducible apply s_asgT) | (with_reducible apply s_parW) | (with_reducible apply s_iteW) | (with_reducible apply ss_nilW) | (with_reducible apply w_call) | (with_reducible apply WL.v) | (with_reducible apply WL.l) | ((with_reducible apply exW); (exact hmul _)) | ((with_reducible apply exW); first | (with_reducible exact eq_i) | (with_reducible exact eq_I) | (with_reducible exact ne_I) | (with_reducible exact ne_i) | (with_reducible exact len_I) | (with_reducible exact sl_last) | (with_reducible exact sl_take (by omega)) | (with_reducible exact sl_drop (by omega)) | (with_reducible exact mod_I (by omega)) | (with_reducible exact div_I (by omega) (by omega)) | (with_reducible exact cat_I (by omega))) | ((with_reducible apply fewW); (focus ((show _ ≤ 16777216); simp; done))) | ((with_reducible apply exW2); rfl) | ((with_reducible apply exW); rfl) | (exfalso; revert hk; decide) | (exfalso; revert hk; simp; done) | intro hk)
  refine WE.imp (e_take 22 i _ _ (by decide) (by decide) (by omega) h5 bx5) ?_
  rintro _ h6 ⟨e, rfl, e0, e1, bx6, kp6⟩
  obtain ⟨far, efar⟩ : ∃ far : Int, far = (10 : Int) ^ (20 : Int).toNat * (1 + d) + e := ⟨_, rfl⟩
  have h20 : (10 : Int) ^ (20 : Int).toNat = 100000000000000000000 := by decide
  have h6' : (10 : Int) ^ (6 : Int).toNat = 1000000 := by decide
  rw [h6'] at e1
  have hadd : ∀ h, opB .add h (.v (.int ((10 : Int) ^ (20 : Int).toNat * (1 + d)))) (.v (.int e)) = some (.v (.int far)) := fun h => by rw [efar]; rfl
  repeat' (first | ((with_reducible apply w_slot); rfl) | (with_reducible apply w_non) | (with_reducible apply w_bl) | (with_reducible apply w_int) | (with_reducible apply w_str) | (with_reducible apply w_tup) | (with_reducible apply w_lst) | (with_reducible apply w_nil) | (with_reducible apply w_cons) | (with_reducible apply w_star) | (with_reducible apply w_bin) | (with_reducible apply w_cmp) | (with_reducible apply w_chain) | (with_reducible apply w_isN) | (with_reducible apply w_notN) | (with_reducible apply w_andW) | (with_reducible apply w_orW) | (with_reducible apply w_not) | (with_reducible apply w_neg) | (with_reducible apply w_ite) | (with_reducible apply w_f1) | (with_reducible apply w_f2) | (with_reducible apply w_isi) | (with_reducible apply w_ix) | (with_reducible apply w_slAll) | (with_reducible apply w_slL) | (with_reducible apply w_slU) | (with_reducible apply w_slLU) | (with_reducible apply w_pop0) | (with_reducible apply w_meth1) | (with_reducible apply w_lcA) | (with_reducible apply w_lsR1) | (with_reducible apply w_lsR2) | (with_reducible apply w_lsZ) | (with_reducible apply w_srtSet) | (with_reducible apply i_seqW) | (with_reducible apply i_rng1W) | (with_reducible apply i_rng2W) | (with_reducible apply i_enumW) | (with_reducible apply i_zipW) | (with_reducible apply s_exprW) | (with_reducible apply s_retW) | (with_reducible apply s_retNW) | (with_reducible apply s_asgW) | (with_reducible apply s_asgT) | (with_reducible apply s_parW) | (with_reducible apply s_iteW) | (with_reducible apply ss_nilW) | (with_reducible apply w_call) | (with_reducible apply WL.v) | (with_reducible apply WL.l) | ((with_reducible apply exW); (exact hadd _)) | ((with_reducible apply exW); first | (with_reducible exact eq_i) | (with_reducible exact eq_I) | (with_reducible exact ne_I) | (with_reducible exact ne_i) | (with_reducible exact len_I) | (with_reducible exact sl_last) | (with_reducible exact sl_take (by omega)) | (with_reducible exact sl_drop (by omega)) | (with_reducible exact mod_I (by omega)) | (with_reducible exact div_I (by omega) (by omega)) | (with_reducible exact cat_I (by omega))) | ((with_reducible apply fewW); (focus ((show _ ≤ 16777216); simp; done))) | ((with_reducible apply exW2); rfl) | ((with_reducible apply exW); rfl) | (exfalso; revert hk; decide) | (exfalso; revert hk; simp; done) | intro hk)
  rw [h20] at efar
  exact last _ _ p rfl rfl _ _ lT rfl rfl elT o s ls i _ (by omega) far (by omega) (by omega) _ _ _ _ _ _ _ _ _ _ _ _ _ _ _ _ h6 bx6
theorem law_all : pd.Law 100000 24 := fun ns hns => by
  refine ⟨⟨0, []⟩, ?_⟩
  refine call_w lk_law (by show (T.pures (ti ns) && true) = true; rw [pures_ti]; rfl) rfl rfl (fun n => ?_) ⟨0, []⟩
  refine WS.imp (law1 ns hns ⟨n, []⟩) (fun _ _ z => z.elim) (fun _ _ z => z) (fun _ _ z => z) (fun _ _ z => z)
end K01
end

section
theorem PySem.Challenge.cw_endlessfingers_k01_whole_lassos_counted_holds : PySem.Challenge.rw_endlessfingers_k01_whole_lassos_counted.Holds :=
  K01.holds_of K01.law_all
end
