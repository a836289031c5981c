import PyProof.Rows.All
import Wide.All
import OpenK.AllK
import Wide.FinOn
import KE.KStateDown
import HandS.Base
import HandS.Call
import HandS.List
import HandS.Comp
import HandS.Iter
import HandS.Dict
import HandS.Ends
import HandS.More
import HandS.Words
import HandS.WordsExc
import HandS.Exc
import HandS.ExcOwn
import HandS.CallSlots
import HandS.Defaults
import HandS.Gcd
import HandS.Wide
import HandS.IsInst
import HandS.HeadEnd
import HandS.HeadHook1
import HandS.HeadHook2
import HandS.Walk
import HandS.Zip
import HandS.TupAny
import HandS.TupMul
import HandS.Deep
import PyProof.Rows.RuleB_bool
import HandS.SortInts
import PyProof.SumAny
import HandS.Head0
import HandS.Head1
import HandS.Head2
import HandS.Head3
import PySem.Challenge.RW_matchroots_k71_whole_mixed_lots
set_option linter.all false
set_option maxRecDepth 100000
/-! Mi, part 1: a small language of values, its syntax and its meaning (no model in sight). -/
namespace Mi

/-- values: what a Python value is worth -/
inductive D where
  | non | bl (b : Bool) | int (i : Int) | str (s : List Nat)
  | lst (l : List D) | tup (l : List D) | ins (c : Nat) (fs : List D) | dr (n : Nat)
  deriving Inhabited

/-- a dict of the store: keys are texts -/
abbrev Kv := List (List Nat × D)
abbrev Sto := List Kv

inductive R (α : Type) where
  | ok (a : α) (S : Sto) | ex (c : Nat) (fs : List D) (S : Sto) | bad
def R.bind {α β : Type} (r : R α) (k : α → Sto → R β) : R β := match r with
  | .ok a S => k a S
  | .ex c fs S => .ex c fs S
  | .bad => .bad

/-- what a call that may not raise gives -/
def R.nox {α : Type} (r : R α) : R α := match r with
  | .ex _ _ _ => .bad
  | r => r

/-- a slot: empty, a value, a list of the def's own, the object that __init__ fills -/
inductive Sl where
  | un | va (d : D) | ol (l : List D) | sf (c : Nat) (fs : List D)
abbrev Env := List Sl

inductive Bi where
  | add | sub | mul | fdiv | mod | pow | band | bor | bxor | shl | shr
inductive Cm where
  | lt | le | gt | ge | eq | ne | isin | notin
/-- what isinstance is asked for -/
inductive Ty where
  | int | bool | str | list | tuple | dict | cls (c : Nat)
/-- a target: a name, a tuple of names -/
inductive Pt where
  | nm (i : Nat) | tp (is : List Nat)

mutual
inductive Ex where
  | var (i : Nat) | int (n : Int) | bl (b : Bool) | non | str (s : List Nat)
  | con (k : Nat)
  | tup (es : Exs) | lst (es : Exs)
  | neg (a : Ex) | not (a : Ex)
  | bin (o : Bi) (a b : Ex)
  | cmp (o : Cm) (a b : Ex) | chn (o p : Cm) (a b c : Ex)
  | isN (a : Ex) | isNN (a : Ex)
  | and (es : Exs) | or (es : Exs)
  | ife (c a b : Ex)
  | idx (s : Sq) (i : Ex) | slc (s : Sq) (lo hi : Exo) | rev (s : Sq)
  | fld (a : Ex) (f : Nat)
  | sfl (i : Nat) (f : Nat)
  | call (f : Nat) (es : Exs) | new (c : Nat) (es : Exs) | mth (m : Nat) (a : Ex) (es : Exs)
  | len (s : Sq) | listOf (s : Sq) | tupOf (s : Sq) | sum (s : Sq) | all (s : Sq) | sorted (s : Sq) | lenSet (s : Sq)
  | max2 (a b : Ex) | min2 (a b : Ex) | intOf (a : Ex) | gcd (a b : Ex)
  | isI (a : Ex) (ts : List Ty) (t : Bool)
  | dget (a : Ex) (k : List Nat)
  | disp (ks : List (List Nat)) (es : Exs)
  | comp (e : Ex) (own : List Nat) (p : Pt) (it : Wk) (c : Exo)
inductive Exs where
  | nil | cons (e : Ex) (es : Exs)
inductive Exo where
  | no | yes (e : Ex)
/-- an operand that is read item by item: a list of the def's own, any other -/
inductive Sq where
  | own (i : Nat) | ex (e : Ex)
/-- what a loop walks -/
inductive Wk where
  | seq (s : Sq) | rng1 (a : Ex) | rng2 (a b : Ex) | enum (s : Sq) | zip (s t : Sq)
end

mutual
inductive Sm where
  | asg (i : Nat) (e : Ex) | own (i : Nat) (e : Ex)
  | asgT (p : List Nat) (e : Ex)
  | par (i : Nat) (oi : Bool) (a : Ex) (j : Nat) (oj : Bool) (b : Ex)
  | exp (e : Ex)
  | app (i : Nat) (e : Ex) | appPop (i j : Nat) (e : Ex)
  | setI (i : Nat) (k e : Ex)
  | dset (i : Nat) (k : List Nat) (e : Ex)
  | sfl (i : Nat) (f : Nat) (e : Ex)
  | frz (i : Nat)
  | iff (c : Ex) (a b : Sms) | whl (c : Ex) (b : Sms) | for_ (p : Pt) (it : Wk) (b : Sms)
  | ret (e : Ex) | retN | pass | brk | cnt | never
inductive Sms where
  | nil | cons (s : Sm) (ss : Sms)
end

/-! ### sizes -/
def SZ : Nat := 16777216

/-! ### operators on plain values -/
def mulOk (a b : Int) : Bool := decide (a.natAbs < 18446744073709551616) || decide (b.natAbs < 18446744073709551616) || decide (a.natAbs.log2 + b.natAbs.log2 < 900000)
def divOk (b : Int) : Bool := (decide (b ≠ 0) && decide (b.natAbs < 1073741824)) || (decide (0 < b) && decide (b.natAbs.log2 < 9000))
def powOk (a b : Int) : Bool := decide (0 ≤ b) && decide (b ≤ 1000000) && decide (a.natAbs < 18446744073709551616)
def b2 (b : Bool) : Int := if b then 1 else 0
def rep {α : Type} (l : List α) : Nat → List α
  | 0 => []
  | n + 1 => l ++ rep l n
def binP (o : Bi) (x y : D) : Option D := match o with
  | .add => (match x, y with
    | .int a, .int b => some (.int (a + b))
    | .lst a, .lst b => if a.length + b.length ≤ SZ then some (.lst (a ++ b)) else none
    | .tup a, .tup b => if a.length + b.length ≤ SZ then some (.tup (a ++ b)) else none
    | .str a, .str b => if a.length + b.length ≤ SZ then some (.str (a ++ b)) else none
    | _, _ => none)
  | .sub => (match x, y with
    | .int a, .int b => some (.int (a - b))
    | .bl a, .bl b => some (.int (b2 a - b2 b))
    | _, _ => none)
  | .mul => (match x, y with
    | .int a, .int b => if mulOk a b then some (.int (a * b)) else none
    | .lst a, .int b => if b < 9223372036854775808 ∧ -9223372036854775808 ≤ b ∧ a.length * b.toNat ≤ SZ then some (.lst (rep a b.toNat)) else none
    | _, _ => none)
  | .fdiv => (match x, y with
    | .int a, .int b => if divOk b then some (.int (a.fdiv b)) else none
    | _, _ => none)
  | .mod => (match x, y with
    | .int a, .int b => if b ≠ 0 then some (.int (a.fmod b)) else none
    | _, _ => none)
  | .pow => (match x, y with
    | .int a, .int b => if powOk a b then some (.int (a ^ b.toNat)) else none
    | _, _ => none)
  | _ => none

mutual
/-- == of plain data -/
def eqB : D → D → Bool
  | .non, .non => true
  | .bl a, .bl b => a == b
  | .bl a, .int j => b2 a == j
  | .int i, .bl b => i == b2 b
  | .int a, .int b => a == b
  | .str a, .str b => a == b
  | .lst a, .lst b => eqL a b
  | .tup a, .tup b => eqL a b
  | _, _ => false
def eqL : List D → List D → Bool
  | [], [] => true
  | x :: xs, y :: ys => eqB x y && eqL xs ys
  | _, _ => false
end
/-- plain data, not too deep -/
def shN : Nat → D → Bool
  | 0, _ => false
  | n + 1, d => match d with
    | .non => true
    | .bl _ => true
    | .int _ => true
    | .str s => s.all fun c => decide (c < 1114112)
    | .lst l => l.all (shN n)
    | .tup l => l.all (shN n)
    | _ => false
def eqD (x y : D) : Option Bool := if (shN 60 x && shN 60 y) = true then some (eqB x y) else none
def inD (x : D) (l : List D) : Option Bool := if (shN 60 x && l.all (shN 59)) = true then some (l.any fun y => eqB y x) else none
def cmpP (o : Cm) (x y : D) : Option Bool := match o with
  | .lt => (match x, y with
    | .int a, .int b => some (decide (a < b))
    | _, _ => none)
  | .le => (match x, y with
    | .int a, .int b => some (decide (a ≤ b))
    | _, _ => none)
  | .gt => (match x, y with
    | .int a, .int b => some (decide (b < a))
    | _, _ => none)
  | .ge => (match x, y with
    | .int a, .int b => some (decide (b ≤ a))
    | _, _ => none)
  | .eq => eqD x y
  | .ne => (eqD x y).map not
  | .isin => (match y with
    | .lst l => inD x l
    | .tup l => inD x l
    | _ => none)
  | .notin => (match y with
    | .lst l => (inD x l).map not
    | .tup l => (inD x l).map not
    | _ => none)

/-! ### places -/
def ixN (n : Nat) (i : Int) : Option Nat := if 0 ≤ i then (if i < n then some i.toNat else none) else if -(n : Int) ≤ i then some (i + n).toNat else none
def atI {α : Type} (l : List α) (i : Int) : Option α := (ixN l.length i).bind fun j => l[j]?
def clip (n d : Nat) : Option Int → Nat
  | none => d
  | some i => if i < 0 then (i + n).toNat else min i.toNat n
def cut {α : Type} (l : List α) (lo hi : Option Int) : List α := (l.drop (clip l.length 0 lo)).take (clip l.length l.length hi - clip l.length 0 lo)
def setN {α : Type} : List α → Nat → α → List α
  | [], _, _ => []
  | _ :: l, 0, a => a :: l
  | x :: l, n + 1, a => x :: setN l n a
def getN {α : Type} : List α → Nat → Option α
  | [], _ => none
  | a :: _, 0 => some a
  | _ :: l, n + 1 => getN l n
def upto : Nat → Int → List D
  | 0, _ => []
  | n + 1, i => .int i :: upto n (i + 1)
def numb : Int → List D → List D
  | _, [] => []
  | i, x :: l => .tup [.int i, x] :: numb (i + 1) l
def zipD : List D → List D → List D
  | x :: l, y :: m => .tup [x, y] :: zipD l m
  | _, _ => []

/-! ### the program -/
structure Fn where
  np : Nat
  ns : Nat
  dfl : List D
  body : Sms
structure Cl where
  init : Nat
  at_ : List Nat
  op : Bi → Option Nat
  rop : Bi → Option Nat
  neg : Option Nat
  eq : Option Nat
  mth : Nat → Option Nat
/-- the callees' meaning, the classes, the constants -/
structure Ga where
  call : Nat → List D → Sto → R D
  cls : Nat → Option Cl
  con : Nat → Option D
  fuel : Nat

section
variable (G : Ga)
def opc (f : Option Nat) (l : List D) (S : Sto) : R D := match f with
  | some f => (G.call f l S).nox
  | none => .bad
def binop (o : Bi) (x y : D) (S : Sto) : R D := match x, y with
  | .ins c fs, .ins d gs => opc G (((G.cls d).bind fun k => k.op o).bind fun _ => (G.cls c).bind fun k => k.op o) [.ins c fs, .ins d gs] S
  | .ins c fs, .int j => opc G ((G.cls c).bind fun k => k.op o) [.ins c fs, .int j] S
  | .int i, .ins d gs => opc G ((G.cls d).bind fun k => k.rop o) [.ins d gs, .int i] S
  | x, y => (match binP o x y with
    | some d => .ok d S
    | none => .bad)
def negD (x : D) (S : Sto) : R D := match x with
  | .int i => .ok (.int (-i)) S
  | .ins c fs => opc G ((G.cls c).bind fun k => k.neg) [.ins c fs] S
  | _ => .bad
def cmpD (o : Cm) (x y : D) (S : Sto) : R Bool := match cmpP o x y with
  | some b => .ok b S
  | none => .bad
def isInt : D → Option Int
  | .int i => some i
  | _ => none
def isBl : D → Option Bool
  | .bl b => some b
  | _ => none
def items : D → Option (List D)
  | .lst l => some l
  | .tup l => some l
  | _ => none
def asB (d : D) (S : Sto) : R Bool := match d with
  | .bl b => .ok b S
  | _ => .bad
def sumL : List D → D → Sto → R D
  | [], a, S => .ok a S
  | x :: l, a, S => (binop G .add a x S).bind fun a S => sumL l a S
def allB : List D → Option Bool
  | [] => some true
  | .bl b :: l => (allB l).map (b && ·)
  | _ :: _ => none
def compL (f : D → Sto → R (Option D)) : List D → Sto → R (List D)
  | [], S => .ok [] S
  | x :: l, S => (f x S).bind fun r S => (compL f l S).bind fun rs S => match r with
    | some d => .ok (d :: rs) S
    | none => .ok rs S
def tyIs (t : Ty) (d : D) : Bool := match t, d with
  | .int, .int _ => true
  | .int, .bl _ => true
  | .bool, .bl _ => true
  | .str, .str _ => true
  | .list, .lst _ => true
  | .tuple, .tup _ => true
  | .dict, .dr _ => true
  | .cls c, .ins k _ => c == k
  | _, _ => false
def lookK (k : List Nat) : Kv → Option D
  | [] => none
  | (h, d) :: r => if h = k then some d else lookK k r
/-- a value, a class that is known -/
def knD : D → Bool
  | .ins c _ => (G.cls c).isSome
  | _ => true
def knT : Ty → Bool
  | .cls c => (G.cls c).isSome
  | _ => true
/-- the field f among the values of the fields at_ -/
def lookF (f : Nat) : List Nat → List D → Option D
  | g :: r, d :: ds => if g = f then some d else lookF f r ds
  | _, _ => none
def putK (k : List Nat) (d : D) (kv : Kv) : Kv := if (kv.any fun p => decide (p.1 = k)) = true then kv.map (fun p => if p.1 = k then (p.1, d) else p) else kv ++ [(k, d)]
def setAll : List Nat → List D → Env → Option Env
  | [], [], v => some v
  | i :: is, d :: ds, v => setAll is ds (setN v i (.va d))
  | _, _, _ => none
def bindPt (p : Pt) (d : D) (v : Env) : Option Env := match p with
  | .nm i => some (setN v i (.va d))
  | .tp is => (match d with
    | .tup l => setAll is l v
    | _ => none)
def wipe (v : Env) : List Nat → Env
  | [] => v
  | i :: is => setN (wipe v is) i .un
def insI (x : Int) : List Int → List Int
  | [] => [x]
  | y :: l => if x ≤ y then x :: y :: l else y :: insI x l
def sortI : List Int → List Int
  | [] => []
  | x :: l => insI x (sortI l)
def dd1 (acc : List Int) (x : Int) : List Int := if acc.any (· == x) then acc else acc ++ [x]
/-- each int once, as it is first met -/
def dedup (l : List Int) : List Int := l.foldl dd1 []
def toInts : List D → Option (List Int)
  | [] => some []
  | .int i :: l => (toInts l).map (i :: ·)
  | _ :: _ => none

mutual
def ev : Ex → Env → Sto → R D
  | .var i, v, S => (match getN v i with
    | some (.va d) => .ok d S
    | _ => .bad)
  | .int n, _, S => .ok (.int n) S
  | .bl b, _, S => .ok (.bl b) S
  | .non, _, S => .ok .non S
  | .str s, _, S => .ok (.str s) S
  | .con k, _, S => (match G.con k with
    | some d => .ok d S
    | none => .bad)
  | .tup es, v, S => (evs es v S).bind fun l S => if l.length ≤ SZ then .ok (.tup l) S else .bad
  | .lst es, v, S => (evs es v S).bind fun l S => if l.length ≤ SZ then .ok (.lst l) S else .bad
  | .neg a, v, S => (ev a v S).bind fun x S => negD G x S
  | .not a, v, S => (ev a v S).bind fun x S => (asB x S).bind fun b S => .ok (.bl (!b)) S
  | .bin o a b, v, S => (ev a v S).bind fun x S => (ev b v S).bind fun y S => binop G o x y S
  | .cmp o a b, v, S => (ev a v S).bind fun x S => (ev b v S).bind fun y S => (cmpD o x y S).bind fun r S => .ok (.bl r) S
  | .chn o p a b c, v, S => (ev a v S).bind fun x S => (ev b v S).bind fun y S => (cmpD o x y S).bind fun r S =>
      if r = true then (ev c v S).bind fun z S => (cmpD p y z S).bind fun r S => .ok (.bl r) S else .ok (.bl false) S
  | .isN a, v, S => (ev a v S).bind fun x S => .ok (.bl (match x with | .non => true | _ => false)) S
  | .isNN a, v, S => (ev a v S).bind fun x S => .ok (.bl (match x with | .non => false | _ => true)) S
  | .and es, v, S => (evAnd es v S).bind fun b S => .ok (.bl b) S
  | .or es, v, S => (evOr es v S).bind fun b S => .ok (.bl b) S
  | .ife c a b, v, S => (ev c v S).bind fun x S => (asB x S).bind fun r S => if r = true then ev a v S else ev b v S
  | .idx s i, v, S => (evq s v S).bind fun l S => (ev i v S).bind fun k S => match k with
    | .int j => (match atI l j with
      | some d => .ok d S
      | none => .bad)
    | _ => .bad
  | .slc s lo hi, v, S => (evk s v S).bind fun t S => (evo lo v S).bind fun a S => (evo hi v S).bind fun b S => match t with
    | .lst l => .ok (.lst (cut l a b)) S
    | .tup l => .ok (.tup (cut l a b)) S
    | _ => .bad
  | .rev s, v, S => (evk s v S).bind fun t S => match t with
    | .lst l => .ok (.lst l.reverse) S
    | .tup l => .ok (.tup l.reverse) S
    | _ => .bad
  | .fld a f, v, S => (ev a v S).bind fun x S => match x with
    | .ins c fs => (match (G.cls c).bind fun k => lookF f k.at_ fs with
      | some d => .ok d S
      | none => .bad)
    | _ => .bad
  | .sfl i f, v, S => (match getN v i with
    | some (.sf c fs) => (match (G.cls c).bind fun k => lookF f k.at_ fs with
      | some d => .ok d S
      | none => .bad)
    | _ => .bad)
  | .call f es, v, S => (evs es v S).bind fun l S => G.call f l S
  | .new c es, v, S => (evs es v S).bind fun l S => match G.cls c with
    | some k => (G.call k.init l S).bind fun d S => (match d with
      | .ins c' fs => if c' = c then .ok (.ins c' fs) S else .bad
      | _ => .bad)
    | none => .bad
  | .mth m a es, v, S => (ev a v S).bind fun x S => match x with
    | .ins c fs => (match (G.cls c).bind fun k => k.mth m with
      | some f => (evs es v S).bind fun l S => G.call f (.ins c fs :: l) S
      | none => .bad)
    | _ => .bad
  | .len s, v, S => (evq s v S).bind fun l S => .ok (.int l.length) S
  | .listOf s, v, S => (evq s v S).bind fun l S => .ok (.lst l) S
  | .tupOf s, v, S => (evq s v S).bind fun l S => .ok (.tup l) S
  | .sum s, v, S => (evq s v S).bind fun l S => sumL G l (.int 0) S
  | .all s, v, S => (evl s v S).bind fun l S => match allB l with
    | some b => .ok (.bl b) S
    | none => .bad
  | .sorted s, v, S => (evl s v S).bind fun l S => match toInts l with
    | some ns => .ok (.lst ((sortI ns).map .int)) S
    | none => .bad
  | .lenSet s, v, S => (evl s v S).bind fun l S => match toInts l with
    | some ns => if ns.length ≤ 4000 then .ok (.int (dedup ns).length) S else .bad
    | none => .bad
  | .max2 a b, v, S => (ev a v S).bind fun x S => (ev b v S).bind fun y S => match x, y with
    | .int i, .int j => .ok (.int (if j > i then j else i)) S
    | _, _ => .bad
  | .min2 a b, v, S => (ev a v S).bind fun x S => (ev b v S).bind fun y S => match x, y with
    | .int i, .int j => .ok (.int (if j < i then j else i)) S
    | _, _ => .bad
  | .intOf a, v, S => (ev a v S).bind fun x S => match x with
    | .int i => .ok (.int i) S
    | .bl b => .ok (.int (b2 b)) S
    | _ => .bad
  | .gcd a b, v, S => (ev a v S).bind fun x S => (ev b v S).bind fun y S => match x, y with
    | .int i, .int j => .ok (.int ((Nat.gcd i.natAbs j.natAbs : Nat) : Int)) S
    | _, _ => .bad
  | .isI a ts _, v, S => (ev a v S).bind fun x S => if (knD G x && ts.all (knT G)) = true then .ok (.bl (ts.any fun t => tyIs t x)) S else .bad
  | .dget a k, v, S => (ev a v S).bind fun x S => match x with
    | .dr n => (match (getN S n).bind (lookK k) with
      | some d => .ok d S
      | none => .bad)
    | _ => .bad
  | .disp ks es, v, S => (evs es v S).bind fun l S => if ks.length = l.length ∧ ks.Nodup ∧ ks.length ≤ 15 then .ok (.dr S.length) (S ++ [ks.zip l]) else .bad
  | .comp e own p it c, v, S => (evt it v S).bind fun l S => if l.length < SZ then
      (compL (fun x S => match bindPt p x (wipe v own) with
        | some w => (evc c w S).nox.bind fun r S => if r = true then (ev e w S).nox.bind fun d S => .ok (some d) S else .ok none S
        | none => .bad) l S).bind fun r S => .ok (.lst r) S else .bad
/-- the items of an operand -/
def evq : Sq → Env → Sto → R (List D)
  | .own i, v, S => (match getN v i with
    | some (.ol l) => .ok l S
    | _ => .bad)
  | .ex e, v, S => (ev e v S).bind fun x S => match x with
    | .lst l => .ok l S
    | .tup l => .ok l S
    | _ => .bad
/-- the items of a list -/
def evl : Sq → Env → Sto → R (List D)
  | .own i, v, S => (match getN v i with
    | some (.ol l) => .ok l S
    | _ => .bad)
  | .ex e, v, S => (ev e v S).bind fun x S => match x with
    | .lst l => .ok l S
    | _ => .bad
/-- the operand as a value (its kind matters) -/
def evk : Sq → Env → Sto → R D
  | .own i, v, S => (match getN v i with
    | some (.ol l) => .ok (.lst l) S
    | _ => .bad)
  | .ex e, v, S => ev e v S
def evs : Exs → Env → Sto → R (List D)
  | .nil, _, S => .ok [] S
  | .cons e es, v, S => (ev e v S).bind fun x S => (evs es v S).bind fun l S => .ok (x :: l) S
def evAnd : Exs → Env → Sto → R Bool
  | .nil, _, S => .ok true S
  | .cons e es, v, S => (ev e v S).bind fun x S => (asB x S).bind fun b S => if b = true then evAnd es v S else .ok false S
def evOr : Exs → Env → Sto → R Bool
  | .nil, _, S => .ok false S
  | .cons e es, v, S => (ev e v S).bind fun x S => (asB x S).bind fun b S => if b = true then .ok true S else evOr es v S
/-- a part of a slice -/
def evo : Exo → Env → Sto → R (Option Int)
  | .no, _, S => .ok none S
  | .yes e, v, S => (ev e v S).bind fun x S => match x with
    | .int i => .ok (some i) S
    | _ => .bad
/-- a comprehension's test -/
def evc : Exo → Env → Sto → R Bool
  | .no, _, S => .ok true S
  | .yes e, v, S => (ev e v S).bind fun x S => asB x S
/-- what is walked -/
def evt : Wk → Env → Sto → R (List D)
  | .seq s, v, S => evq s v S
  | .rng1 a, v, S => (ev a v S).bind fun x S => match x with
    | .int j => if -4611686018427387904 ≤ j ∧ j < 4611686018427387904 then .ok (upto j.toNat 0) S else .bad
    | _ => .bad
  | .rng2 a b, v, S => (ev a v S).bind fun x S => (ev b v S).bind fun y S => match x, y with
    | .int i, .int j => if (-4611686018427387904 ≤ i ∧ i < 4611686018427387904) ∧ -4611686018427387904 ≤ j ∧ j < 4611686018427387904 then .ok (upto (j - i).toNat i) S else .bad
    | _, _ => .bad
  | .enum s, v, S => (evl s v S).bind fun l S => .ok (numb 0 l) S
  | .zip s t, v, S => (evq s v S).bind fun l S => (evq t v S).bind fun m S => .ok (zipD l m) S
end

/-! ### statements -/
inductive Fl where
  | nx (v : Env) | rt (d : D) | bk (v : Env) | ct (v : Env)
def forL (f : D → Env → Sto → R Fl) : List D → Env → Sto → R Fl
  | [], v, S => .ok (.nx v) S
  | x :: l, v, S => (f x v S).bind fun r S => match r with
    | .nx v => forL f l v S
    | .ct v => forL f l v S
    | .bk v => .ok (.nx v) S
    | .rt d => .ok (.rt d) S
def whlL (c : Env → Sto → R Bool) (f : Env → Sto → R Fl) : Nat → Env → Sto → R Fl
  | 0, _, _ => .bad
  | n + 1, v, S => (c v S).bind fun b S => if b = true then (f v S).bind fun r S => match r with
    | .nx v => whlL c f n v S
    | .ct v => whlL c f n v S
    | .bk v => .ok (.nx v) S
    | .rt d => .ok (.rt d) S
    else .ok (.nx v) S
def isFresh : Ex → Bool
  | .lst _ => true
  | .listOf _ => true
  | .sorted _ => true
  | .comp .. => true
  | _ => false
def slotOf (o : Bool) (e : Ex) (d : D) : Option Sl := match o with
  | false => some (.va d)
  | true => if isFresh e then (match d with
    | .lst l => some (.ol l)
    | _ => none) else none

mutual
def xs1 : Sm → Env → Sto → R Fl
  | .asg i e, v, S => (ev G e v S).bind fun d S => .ok (.nx (setN v i (.va d))) S
  | .own i e, v, S => (ev G e v S).bind fun d S => match slotOf true e d with
    | some s => .ok (.nx (setN v i s)) S
    | none => .bad
  | .asgT p e, v, S => (ev G e v S).bind fun d S => match bindPt (.tp p) d v with
    | some w => .ok (.nx w) S
    | none => .bad
  | .par i oi a j oj b, v, S => (ev G a v S).bind fun x S => (ev G b v S).bind fun y S => match slotOf oi a x, slotOf oj b y with
    | some s, some t => .ok (.nx (setN (setN v i s) j t)) S
    | _, _ => .bad
  | .exp e, v, S => (ev G e v S).bind fun _ S => .ok (.nx v) S
  | .app i e, v, S => (match getN v i with
    | some (.ol l) => (ev G e v S).bind fun d S => if l.length < SZ then .ok (.nx (setN v i (.ol (l ++ [d])))) S else .bad
    | _ => .bad)
  | .appPop i j e, v, S => (match getN v i, getN v j with
    | some (.ol l), some (.ol m) => (ev G e v S).bind fun k S => (match k with
      | .int k => (match ixN m.length k with
        | some n => (match getN m n with
          | some d => if i ≠ j ∧ l.length < SZ ∧ k < 9223372036854775808 ∧ -9223372036854775808 ≤ k then .ok (.nx (setN (setN v j (.ol (m.eraseIdx n))) i (.ol (l ++ [d])))) S else .bad
          | none => .bad)
        | none => .bad)
      | _ => .bad)
    | _, _ => .bad)
  | .setI i k e, v, S => (match getN v i with
    | some (.ol l) => (ev G e v S).bind fun d S => (ev G k v S).bind fun k S => (match k with
      | .int k => (match ixN l.length k with
        | some n => .ok (.nx (setN v i (.ol (setN l n d)))) S
        | none => .bad)
      | _ => .bad)
    | _ => .bad)
  | .dset i k e, v, S => (match getN v i with
    | some (.va (.dr n)) => (ev G e v S).bind fun d S => (match getN S n with
      | some kv => if kv.length < SZ then .ok (.nx v) (setN S n (putK k d kv)) else .bad
      | none => .bad)
    | _ => .bad)
  | .sfl i f e, v, S => (match getN v i with
    | some (.sf c fs) => (ev G e v S).bind fun d S => (match (G.cls c).bind fun k => getN k.at_ fs.length with
      | some g => if g = f ∧ fs.length < 900 then .ok (.nx (setN v i (.sf c (fs ++ [d])))) S else .bad
      | none => .bad)
    | _ => .bad)
  | .frz i, v, S => (match getN v i with
    | some (.ol l) => .ok (.nx (setN v i (.va (.lst l)))) S
    | _ => .bad)
  | .iff c a b, v, S => (ev G c v S).bind fun x S => (asB x S).bind fun r S => if r = true then xss a v S else xss b v S
  | .whl c b, v, S => whlL (fun v S => (ev G c v S).bind fun x S => asB x S) (fun v S => xss b v S) G.fuel v S
  | .for_ p it b, v, S => (evt G it v S).bind fun l S => forL (fun x v S => match bindPt p x v with
    | some w => xss b w S
    | none => .bad) l v S
  | .ret e, v, S => (ev G e v S).bind fun d S => .ok (.rt d) S
  | .retN, _, S => .ok (.rt .non) S
  | .pass, v, S => .ok (.nx v) S
  | .brk, v, S => .ok (.bk v) S
  | .cnt, v, S => .ok (.ct v) S
  | .never, _, _ => .bad
def xss : Sms → Env → Sto → R Fl
  | .nil, v, S => .ok (.nx v) S
  | .cons s ss, v, S => (xs1 s v S).bind fun r S => match r with
    | .nx v => xss ss v S
    | r => .ok r S
end
end
end Mi

/-! ### calls -/
namespace Mi
/-- a def of the program: its parameters' number, its slots' number, the values of its defaults, its body; ini: the class whose __init__ it is -/
structure Fd where
  np : Nat
  ns : Nat
  dfl : List D
  ini : Option Nat
  body : Sms
structure Pg where
  fns : Nat → Option Fd
  cls : Nat → Option Cl
  con : Nat → Option D
def padU : Nat → Env → Env
  | 0, v => v
  | n + 1, v => padU n (v ++ [.un])
/-- the arguments, the defaults that fill up -/
def filled (f : Fd) (ds : List D) : Option (List D) :=
  let k := f.np - ds.length
  if ds.length ≤ f.np ∧ k ≤ f.dfl.length then some (ds ++ f.dfl.drop (f.dfl.length - k)) else none
def runF (G : Ga) (f : Fd) (ds : List D) (S : Sto) : R D := match f.ini with
  | none => (match filled f ds with
    | some es => (xss G f.body (padU (f.ns - es.length) (es.map .va)) S).bind fun r S => (match r with
      | .rt d => .ok d S
      | .nx _ => .ok .non S
      | _ => .bad)
    | none => .bad)
  | some c => (match filled f (.non :: ds) with
    | some (_ :: es) => (match G.cls c with
      | some k => (xss G f.body (padU (f.ns - (es.length + 1)) (.sf c [] :: es.map .va)) S).bind fun r S => (match r with
        | .nx (.sf c' fs :: _) => if c' = c ∧ fs.length = k.at_.length then .ok (.ins c fs) S else .bad
        | _ => .bad)
      | none => .bad)
    | _ => .bad)
def callN (P : Pg) (fuel : Nat) : Nat → Nat → List D → Sto → R D
  | 0, _, _, _ => .bad
  | n + 1, i, ds, S => (match P.fns i with
    | some f => runF ⟨callN P fuel n, P.cls, P.con, fuel⟩ f ds S
    | none => .bad)
def gaOf (P : Pg) (fuel n : Nat) : Ga := ⟨callN P fuel n, P.cls, P.con, fuel⟩
end Mi

set_option Elab.async false
set_option linter.all false
set_option maxRecDepth 100000
set_option maxHeartbeats 4000000
/-! Mi, part 2: how values lie in the abstract heap. -/
namespace Mi
open PySem PySem.Spec PyProof.Rows L2

/-- a text's codes as the model's text -/
def toS (s : List Nat) : Str := ⟨s.toArray⟩
/-- the classes' addresses, the names of their fields -/
structure Ci where
  K : PySem.W.Frag
  ca : Nat → Addr
  cn : Nat → List Str

section
variable (Z : Ci)
mutual
/-- the value v is worth d: F what stands still, ρ the store's dicts -/
inductive Rep (F : Hp) (ρ : List Addr) : D → V → Prop where
  | non : Rep F ρ .non .non
  | bl {b : Bool} : Rep F ρ (.bl b) (.bl b)
  | int {i : Int} : Rep F ρ (.int i) (.int i)
  | str {s : List Nat} : Rep F ρ (.str s) (.str (toS s))
  | lst {a : Addr} {vs : List V} {l : List D} (h : Rd F a (.lst vs)) (r : Reps F ρ l vs) : Rep F ρ (.lst l) (.ref a)
  | tup {a : Addr} {vs : List V} {l : List D} (h : SqT Z.K F a vs) (r : Reps F ρ l vs) : Rep F ρ (.tup l) (.ref a)
  | ins {a dx : Addr} {c : Nat} {vs : List V} {fs : List D} (h : F a = some (.ins (Z.ca c) dx ((Z.cn c).zip vs))) (hl : vs.length = (Z.cn c).length) (r : Reps F ρ fs vs) : Rep F ρ (.ins c fs) (.ref a)
  | dr {a : Addr} {n : Nat} (h : getN ρ n = some a) : Rep F ρ (.dr n) (.ref a)
inductive Reps (F : Hp) (ρ : List Addr) : List D → List V → Prop where
  | nil : Reps F ρ [] []
  | cons {d : D} {v : V} {l : List D} {vs : List V} (h : Rep F ρ d v) (t : Reps F ρ l vs) : Reps F ρ (d :: l) (v :: vs)
end
end

theorem seqT {K : PySem.W.Frag} {F F' : Hp} {a : Addr} {xs : List V} (e : Same F F') (h : SqT K F a xs) : SqT K F' a xs := by
  rcases h with (h | ⟨o, h⟩) | h
  · exact .inl (.inl (e _ _ h))
  · exact .inl (.inr ⟨o, e _ _ h⟩)
  · exact .inr h
theorem rdM {F F' : Hp} {a : Addr} {u : HO} (e : Same F F') (h : Rd F a u) : Rd F' a u := h.imp (e _ _) fun ⟨o, q⟩ => ⟨o, e _ _ q⟩
theorem getN_app {α : Type} : ∀ {l m : List α} {n : Nat} {a : α}, getN l n = some a → getN (l ++ m) n = some a
  | _ :: _, _, 0, _, h => h
  | _ :: l, m, n + 1, _, h => getN_app (l := l) (m := m) (n := n) h
theorem getN_eq {α : Type} : ∀ (l : List α) (n : Nat), getN l n = l[n]?
  | [], n => by simp [getN]
  | _ :: _, 0 => rfl
  | x :: l, n + 1 => by rw [List.getElem?_cons_succ]; exact getN_eq l n
theorem setN_eq {α : Type} : ∀ (l : List α) (n : Nat) (a : α), setN l n a = l.set n a
  | [], n, a => by simp [setN]
  | _ :: _, 0, _ => rfl
  | x :: l, n + 1, a => by simp [setN, setN_eq l n a]

section
variable {Z : Ci} {F F' : Hp} {ρ m : List Addr}
mutual
theorem Rep.mono (e : Same F F') {d : D} {v : V} (h : Rep Z F ρ d v) : Rep Z F' (ρ ++ m) d v := match h with
  | .non => .non
  | .bl => .bl
  | .int => .int
  | .str => .str
  | .lst h r => .lst (rdM e h) (r.mono e)
  | .tup h r => .tup (seqT e h) (r.mono e)
  | .ins h hl r => .ins (e _ _ h) hl (r.mono e)
  | .dr h => .dr (getN_app h)
theorem Reps.mono (e : Same F F') {l : List D} {vs : List V} (h : Reps Z F ρ l vs) : Reps Z F' (ρ ++ m) l vs := match h with
  | .nil => .nil
  | .cons h t => .cons (h.mono e) (t.mono e)
end
theorem Reps.len {l : List D} {vs : List V} (h : Reps Z F ρ l vs) : l.length = vs.length := by
  induction l generalizing vs with
  | nil => cases h; rfl
  | cons d l ih => cases h with | cons _ t => simp [ih t]
theorem Reps.get {l : List D} {vs : List V} (h : Reps Z F ρ l vs) {n : Nat} {d : D} (e : l[n]? = some d) : ∃ v, vs[n]? = some v ∧ Rep Z F ρ d v := by
  induction l generalizing vs n with
  | nil => simp at e
  | cons x l ih =>
    cases h with
    | cons h t =>
      cases n with
      | zero => simp at e; subst e; exact ⟨_, rfl, h⟩
      | succ n => simp at e; simpa using ih t e
theorem Reps.app {l l' : List D} {vs vs' : List V} (h : Reps Z F ρ l vs) (h' : Reps Z F ρ l' vs') : Reps Z F ρ (l ++ l') (vs ++ vs') := by
  induction l generalizing vs with
  | nil => cases h; exact h'
  | cons x l ih => cases h with | cons h t => exact .cons h (ih t)
theorem Reps.one {d : D} {v : V} (h : Rep Z F ρ d v) : Reps Z F ρ [d] [v] := .cons h .nil
theorem Reps.drop {l : List D} {vs : List V} (h : Reps Z F ρ l vs) (n : Nat) : Reps Z F ρ (l.drop n) (vs.drop n) := by
  induction n generalizing l vs with
  | zero => exact h
  | succ n ih => cases h with
    | nil => exact .nil
    | cons _ t => exact ih t
theorem Reps.take {l : List D} {vs : List V} (h : Reps Z F ρ l vs) (n : Nat) : Reps Z F ρ (l.take n) (vs.take n) := by
  induction n generalizing l vs with
  | zero => exact .nil
  | succ n ih => cases h with
    | nil => exact .nil
    | cons h t => exact .cons h (ih t)
theorem Reps.set {l : List D} {vs : List V} (h : Reps Z F ρ l vs) (n : Nat) {d : D} {v : V} (r : Rep Z F ρ d v) : Reps Z F ρ (l.set n d) (vs.set n v) := by
  induction n generalizing l vs with
  | zero => cases h with
    | nil => exact .nil
    | cons _ t => exact .cons r t
  | succ n ih => cases h with
    | nil => exact .nil
    | cons h t => exact .cons h (ih t)
theorem Reps.eraseIdx {l : List D} {vs : List V} (h : Reps Z F ρ l vs) (n : Nat) : Reps Z F ρ (l.eraseIdx n) (vs.eraseIdx n) := by
  induction n generalizing l vs with
  | zero => cases h with
    | nil => exact .nil
    | cons _ t => exact t
  | succ n ih => cases h with
    | nil => exact .nil
    | cons h t => exact .cons h (ih t)
theorem Reps.reverse {l : List D} {vs : List V} (h : Reps Z F ρ l vs) : Reps Z F ρ l.reverse vs.reverse := by
  induction l generalizing vs with
  | nil => cases h; exact .nil
  | cons x l ih => cases h with
    | cons h t => rw [List.reverse_cons, List.reverse_cons]; exact (ih t).app (.one h)
end

/-! ### the store, the slots -/
def keysOf (kv : Kv) : List Key := kv.map fun p => (Sum.inr (toS p.1) : Key)
structure StoR (Z : Ci) (F : Hp) (ρ : List Addr) (S : Sto) (H : Hp) : Prop where
  le : Same F H
  len : ρ.length = S.length
  nd : ρ.Nodup
  at_ : ∀ (n : Nat) (kv : Kv) (a : Addr), S[n]? = some kv → ρ[n]? = some a → F a = none ∧ ∃ vs, H a = some (.dK ((keysOf kv).zip vs)) ∧ Reps Z F ρ (kv.map (·.2)) vs
/-- what a slot's own object is -/
def Own (s : Sl) (o : Option V) (a : Addr) : Prop := (match s with
  | .ol _ => True
  | .sf _ _ => True
  | _ => False) ∧ o = some (.ref a)
def SlR (Z : Ci) (F : Hp) (ρ : List Addr) (H : Hp) : Sl → Option V → Prop
  | .un, _ => True
  | .va d, o => ∃ v, o = some v ∧ Rep Z F ρ d v
  | .ol l, o => ∃ a vs, o = some (.ref a) ∧ H a = some (.lst vs) ∧ F a = none ∧ Reps Z F ρ l vs
  | .sf c fs, o => ∃ a dx vs, o = some (.ref a) ∧ H a = some (.ins (Z.ca c) dx ((Z.cn c).zip vs)) ∧ vs.length ≤ (Z.cn c).length ∧ F a = none ∧ Reps Z F ρ fs vs
structure EnvR (Z : Ci) (F : Hp) (ρ : List Addr) (v : Env) (σ : L2.St) (H : Hp) : Prop where
  len : v.length = σ.length
  at_ : ∀ (i : Nat) (s : Sl) (o : Option V), v[i]? = some s → σ[i]? = some o → SlR Z F ρ H s o
  inj : ∀ (i j : Nat) (s t : Sl) (o p : Option V) (a : Addr), v[i]? = some s → σ[i]? = some o → v[j]? = some t → σ[j]? = some p → Own s o a → Own t p a → i = j
  out : ∀ (i : Nat) (s : Sl) (o : Option V) (a : Addr), v[i]? = some s → σ[i]? = some o → Own s o a → a ∉ ρ
/-- what an expression, a call, a statement leaves: all that was tracked but the store's dicts and what O tells stands; what stands still grows by new objects and by what O tells -/
structure Ext (O : Addr → Prop) (F : Hp) (ρ : List Addr) (H F' : Hp) (ρ' : List Addr) (H' : Hp) : Prop where
  le : Same F F'
  keep : ∀ a o, H a = some o → a ∉ ρ → ¬ O a → H' a = some o
  dom : ∀ a, H' a = none → H a = none
  new : ∀ a o, F' a = some o → F a = some o ∨ H a = none ∨ O a
  pre : ∃ m, ρ' = ρ ++ m ∧ ∀ a ∈ m, H a = none
abbrev nO : Addr → Prop := fun _ => False

section
variable {Z : Ci} {F F1 F2 : Hp} {ρ ρ1 ρ2 : List Addr} {H H1 H2 : Hp} {v : Env} {σ : L2.St} {S S1 : Sto} {O O1 : Addr → Prop}
theorem Ext.refl : Ext O F ρ H F ρ H := ⟨Same.refl F, fun _ _ h _ _ => h, fun _ h => h, fun _ _ h => .inl h, [], by simp, by simp⟩
theorem Ext.transO (a : Ext O F ρ H F1 ρ1 H1) (b : Ext O1 F1 ρ1 H1 F2 ρ2 H2) (ho : ∀ c, O1 c → O c ∨ H c = none) : Ext O F ρ H F2 ρ2 H2 := by
  obtain ⟨m, e, hm⟩ := a.pre
  obtain ⟨n, e', hn⟩ := b.pre
  refine ⟨a.le.trans b.le, fun c o h hc hO => b.keep c o (a.keep c o h hc hO) ?_ fun q => ?_, fun c h => a.dom c (b.dom c h), fun c o h => ?_, m ++ n, by rw [e', e, List.append_assoc], fun c hc => ?_⟩
  · rw [e]
    intro q
    rcases List.mem_append.mp q with q | q
    · exact hc q
    · rw [hm c q] at h; cases h
  · rcases ho c q with w | w
    · exact hO w
    · rw [h] at w; cases w
  · rcases b.new c o h with q | q | q
    · exact a.new c o q
    · exact .inr (.inl (a.dom c q))
    · rcases ho c q with w | w
      · exact .inr (.inr w)
      · exact .inr (.inl w)
  · rcases List.mem_append.mp hc with q | q
    · exact hm c q
    · exact a.dom c (hn c q)
theorem Ext.trans (a : Ext O F ρ H F1 ρ1 H1) (b : Ext nO F1 ρ1 H1 F2 ρ2 H2) : Ext O F ρ H F2 ρ2 H2 := a.transO b fun _ q => q.elim
theorem Ext.weak (a : Ext nO F ρ H F1 ρ1 H1) : Ext O F ρ H F1 ρ1 H1 := ⟨a.le, fun c o h hc _ => a.keep c o h hc fun q => q, a.dom, fun c o h => (a.new c o h).elim .inl fun q => q.elim (fun q => .inr (.inl q)) fun q => q.elim, a.pre⟩
theorem Ext.rep (e : Ext O F ρ H F1 ρ1 H1) {d : D} {x : V} (h : Rep Z F ρ d x) : Rep Z F1 ρ1 d x := by
  obtain ⟨m, rfl, _⟩ := e.pre
  exact h.mono e.le
theorem Ext.reps (e : Ext O F ρ H F1 ρ1 H1) {l : List D} {x : List V} (h : Reps Z F ρ l x) : Reps Z F1 ρ1 l x := by
  obtain ⟨m, rfl, _⟩ := e.pre
  exact h.mono e.le
theorem Ext.slot (e : Ext nO F ρ H F1 ρ1 H1) {s : Sl} {o : Option V} (h : SlR Z F ρ H s o) (ho : ∀ a, Own s o a → a ∉ ρ) : SlR Z F1 ρ1 H1 s o := by
  have nf : ∀ {a : Addr} {u : HO}, H a = some u → F a = none → F1 a = none := fun {a u} hh hf => by
    cases q : F1 a with
    | none => rfl
    | some z =>
      rcases e.new a z q with w | w | w
      · rw [hf] at w; cases w
      · rw [hh] at w; cases w
      · exact w.elim
  cases s with
  | un => trivial
  | va d => obtain ⟨x, rfl, r⟩ := h; exact ⟨x, rfl, e.rep r⟩
  | ol l => obtain ⟨a, vs, rfl, hh, hf, r⟩ := h; exact ⟨a, vs, rfl, e.keep _ _ hh (ho a ⟨trivial, rfl⟩) (fun q => q), nf hh hf, e.reps r⟩
  | sf c fs => obtain ⟨a, dx, vs, rfl, hh, hl, hf, r⟩ := h; exact ⟨a, dx, vs, rfl, e.keep _ _ hh (ho a ⟨trivial, rfl⟩) (fun q => q), hl, nf hh hf, e.reps r⟩
theorem SlR.own (h : SlR Z F ρ H s o) {a : Addr} (w : Own s o a) : ∃ u, H a = some u ∧ F a = none := by
  obtain ⟨w1, rfl⟩ := w
  cases s with
  | un => exact w1.elim
  | va d => exact w1.elim
  | ol l => obtain ⟨b, vs, e, hh, hf, r⟩ := h; cases e; exact ⟨_, hh, hf⟩
  | sf c fs => obtain ⟨b, dx, vs, e, hh, hl, hf, r⟩ := h; cases e; exact ⟨_, hh, hf⟩
theorem EnvR.ext (h : EnvR Z F ρ v σ H) (e : Ext nO F ρ H F1 ρ1 H1) : EnvR Z F1 ρ1 v σ H1 := by
  refine ⟨h.len, fun i s o a b => e.slot (h.at_ i s o a b) fun c w => h.out i s o c a b w, h.inj, fun i s o a hv hs w hm => ?_⟩
  obtain ⟨m, rfl, hn⟩ := e.pre
  rcases List.mem_append.mp hm with q | q
  · exact h.out i s o a hv hs w q
  · obtain ⟨u, hu, _⟩ := (h.at_ i s o hv hs).own w
    rw [hn a q] at hu; cases hu
/-- a new object that will stand still -/
theorem Ext.laid {p : Addr} {o : HO} (hp : H p = none) (le : Same F H) : Ext O F ρ H (upd F p o) ρ (upd H p o) := by
  have fp : F p = none := by
    cases q : F p with
    | none => rfl
    | some u => rw [le p u q] at hp; cases hp
  refine ⟨fun a u h => ?_, fun a u h _ _ => ?_, fun a h => ?_, fun a u h => ?_, [], by simp, by simp⟩
  · rw [upd_ne (ne_of_none h fp)]; exact h
  · rw [upd_ne (ne_of_none h hp)]; exact h
  · by_cases q : a = p
    · subst q; rw [upd_same] at h; cases h
    · rw [upd_ne q] at h; exact h
  · by_cases q : a = p
    · subst q; exact .inr (.inl hp)
    · rw [upd_ne q] at h; exact .inl h
/-- a new object, not yet still -/
theorem Ext.made {p : Addr} {o : HO} (hp : H p = none) : Ext O F ρ H F ρ (upd H p o) := by
  refine ⟨Same.refl F, fun a u h _ _ => ?_, fun a h => ?_, fun a u h => .inl h, [], by simp, by simp⟩
  · rw [upd_ne (ne_of_none h hp)]; exact h
  · by_cases q : a = p
    · subst q; rw [upd_same] at h; cases h
    · rw [upd_ne q] at h; exact h
theorem StoR.out (h : StoR Z F ρ S H) {n : Nat} {a : Addr} (e : ρ[n]? = some a) : ∃ u, H a = some u := by
  have hl : n < S.length := by rw [← h.len]; exact (List.getElem?_eq_some_iff.mp e).1
  obtain ⟨_, vs, q, _⟩ := h.at_ n S[n] a (by simp [hl]) e
  exact ⟨_, q⟩
theorem StoR.laid {p : Addr} {o : HO} (hp : H p = none) (h : StoR Z F ρ S H) : StoR Z (upd F p o) ρ S (upd H p o) := by
  have e : Ext nO F ρ H (upd F p o) ρ (upd H p o) := Ext.laid hp h.le
  refine ⟨fun a u q => ?_, h.len, h.nd, fun n kv a h1 h2 => ?_⟩
  · by_cases z : a = p
    · subst z; rw [upd_same] at q ⊢; exact q
    · rw [upd_ne z] at q ⊢; exact h.le a u q
  · obtain ⟨hf, vs, hh, r⟩ := h.at_ n kv a h1 h2
    have z : a ≠ p := ne_of_none hh hp
    exact ⟨by rw [upd_ne z]; exact hf, vs, by rw [upd_ne z]; exact hh, e.reps r⟩
theorem StoR.made {p : Addr} {o : HO} (hp : H p = none) (h : StoR Z F ρ S H) : StoR Z F ρ S (upd H p o) := by
  refine ⟨fun a u q => ?_, h.len, h.nd, fun n kv a h1 h2 => ?_⟩
  · rw [upd_ne (ne_of_none (h.le a u q) hp)]; exact h.le a u q
  · obtain ⟨hf, vs, hh, r⟩ := h.at_ n kv a h1 h2
    exact ⟨hf, vs, by rw [upd_ne (ne_of_none hh hp)]; exact hh, r⟩
end
end Mi

set_option Elab.async false
set_option linter.all false
set_option maxRecDepth 100000
set_option maxHeartbeats 4000000
/-! Mi, part 3: readings by the interpreter. -/
namespace Mi
open PySem PySem.Spec PyProof.Rows L2

/-- an exception's own: its class, its dict -/
def XRep (Z : Ci) (c : Nat) (fs : List D) (cls : Value) (dx : Option Addr) (F : Hp) (ρ : List Addr) (H : Hp) : Prop :=
  cls = .ref (Z.ca c) ∧ ((fs = [] ∧ dx = none) ∨ ∃ dd vs, dx = some dd ∧ H dd = some (.xd ((Z.cn c).zip vs)) ∧ Reps Z F ρ fs vs)
/-- a result's meaning: from the heap at hand on -/
def PostA {α β : Type} (Z : Ci) (W : WX) (r : R α) (P : α → β → Hp → List Addr → Hp → Prop) (F : Hp) (ρ : List Addr) (σ : L2.St) (H : Hp) (Q : β → Hp → Prop) : Prop := match r with
  | .ok a S => ∀ b F' ρ' H', Ext nO F ρ H F' ρ' H' → StoR Z F' ρ' S H' → P a b F' ρ' H' → Q b H'
  | .ex c fs S => ∀ cls dx F' ρ' H', Ext nO F ρ H F' ρ' H' → StoR Z F' ρ' S H' → XRep Z c fs cls dx F' ρ' H' → W cls dx σ H'
  | .bad => False
def pV (Z : Ci) : D → V → Hp → List Addr → Hp → Prop := fun d x F ρ _ => Rep Z F ρ d x
def pVs (Z : Ci) : List D → List V → Hp → List Addr → Hp → Prop := fun d x F ρ _ => Reps Z F ρ d x
def pEq {α : Type} : α → α → Hp → List Addr → Hp → Prop := fun a b _ _ _ => a = b
/-- a list or a tuple that can be read, whatever keeps it -/
def pQ (Z : Ci) : List D → V → Hp → List Addr → Hp → Prop := fun l x F ρ H => ∃ a vs, x = .ref a ∧ (Rd H a (.lst vs) ∨ SqT Z.K F a vs) ∧ Reps Z F ρ l vs
/-- a list that can be read -/
def pL (Z : Ci) : List D → V → Hp → List Addr → Hp → Prop := fun l x F ρ H => ∃ a vs, x = .ref a ∧ Rd H a (.lst vs) ∧ Reps Z F ρ l vs
/-- a value, or a list of the def's own -/
def pK (Z : Ci) : D → V → Hp → List Addr → Hp → Prop := fun d x F ρ H => Rep Z F ρ d x ∨ ∃ l a vs, d = .lst l ∧ x = .ref a ∧ Rd H a (.lst vs) ∧ Reps Z F ρ l vs

section
variable {Z : Ci} {W : WX} {α β γ δ : Type} {F F1 : Hp} {ρ ρ1 : List Addr} {H H1 : Hp} {σ : L2.St} {S : Sto} {v : Env}
theorem PostA.ext {r : R α} {P : α → β → Hp → List Addr → Hp → Prop} {Q : β → Hp → Prop} (h : PostA Z W r P F ρ σ H Q) (e : Ext nO F ρ H F1 ρ1 H1) : PostA Z W r P F1 ρ1 σ H1 Q := by
  cases r with
  | ok a S => exact fun b F' ρ' H' e' s p => h b F' ρ' H' (e.trans e') s p
  | ex c fs S => exact fun cls dx F' ρ' H' e' s p => h cls dx F' ρ' H' (e.trans e') s p
  | bad => exact h
theorem PostA.bind {r : R α} {k : α → Sto → R γ} {P : α → β → Hp → List Addr → Hp → Prop} {P2 : γ → δ → Hp → List Addr → Hp → Prop} {Q : δ → Hp → Prop}
    (h : PostA Z W (r.bind k) P2 F ρ σ H Q) : PostA Z W r P F ρ σ H fun b H1 => ∃ a F1 ρ1 S1, Ext nO F ρ H F1 ρ1 H1 ∧ StoR Z F1 ρ1 S1 H1 ∧ P a b F1 ρ1 H1 ∧ PostA Z W (k a S1) P2 F1 ρ1 σ H1 Q := by
  cases r with
  | ok a S => exact fun b F' ρ' H' e s p => ⟨a, F', ρ', S, e, s, p, PostA.ext (show PostA Z W (k a S) P2 F ρ σ H Q from h) e⟩
  | ex c fs S => exact h
  | bad => exact h
/-- an end that is known -/
theorem PostA.done {a : α} {b : β} {P : α → β → Hp → List Addr → Hp → Prop} {Q : β → Hp → Prop} (h : PostA Z W (.ok a S) P F ρ σ H Q) (s : StoR Z F ρ S H) (p : P a b F ρ H) : Q b H := h b F ρ H .refl s p
theorem PostA.mono {r : R α} {P : α → β → Hp → List Addr → Hp → Prop} {P2 : α → δ → Hp → List Addr → Hp → Prop} {Q : β → Hp → Prop} {Q2 : δ → Hp → Prop} (h : PostA Z W r P F ρ σ H Q)
    (f : ∀ a d F' ρ' H', Ext nO F ρ H F' ρ' H' → P2 a d F' ρ' H' → (∀ b, P a b F' ρ' H' → Q b H') → Q2 d H') : PostA Z W r P2 F ρ σ H Q2 := by
  cases r with
  | ok a S => exact fun d F' ρ' H' e s p => f a d F' ρ' H' e p fun b q => h b F' ρ' H' e s q
  | ex c fs S => exact h
  | bad => exact h

/-- a state and what comes of it -/
def tG {α β : Type} (Z : Ci) (W : WX) (f : Env → Sto → R α) (P : α → β → Hp → List Addr → Hp → Prop) : L2.St → Hp → (β → Hp → Prop) → Prop := fun σ H Q =>
  ∃ F ρ v S, EnvR Z F ρ v σ H ∧ StoR Z F ρ S H ∧ PostA Z W (f v S) P F ρ σ H Q
abbrev tE (Z : Ci) (W : WX) (G : Ga) (e : Ex) : TE := tG Z W (ev G e) (pV Z)
abbrev tEs (Z : Ci) (W : WX) (G : Ga) (es : Exs) : TA := tG Z W (evs G es) (pVs Z)
abbrev tQ (Z : Ci) (W : WX) (G : Ga) (s : Sq) : TE := tG Z W (evq G s) (pQ Z)
/-- as a test -/
abbrev tT (Z : Ci) (W : WX) (G : Ga) (e : Ex) : TT := tG Z W (fun v S => (ev G e v S).bind asB) pEq
abbrev tB2 (Z : Ci) (W : WX) (f : Env → Sto → R Bool) : TT := tG Z W f pEq

theorem EnvR.get {i : Nat} {s : Sl} (h : EnvR Z F ρ v σ H) (e : getN v i = some s) : ∃ o, σ[i]? = some o ∧ SlR Z F ρ H s o := by
  rw [getN_eq] at e
  have hl : i < v.length := (List.getElem?_eq_some_iff.mp e).1
  rw [h.len] at hl
  exact ⟨σ[i], by simp [hl], h.at_ i s σ[i] e (by simp [hl])⟩
theorem _root_.L2.PE.imp {X : Cx} {e : Expr} {t t' : TE} (h : PE X e t) (f : ∀ σ H Q, t' σ H Q → t σ H Q) : PE X e t' := ⟨fun pins s σ H Q I q => h.run pins s σ H Q I (f σ H Q q)⟩
theorem _root_.L2.PT.imp {X : Cx} {e : Expr} {t t' : TT} (h : PT X e t) (f : ∀ σ H Q, t' σ H Q → t σ H Q) : PT X e t' := ⟨fun pins s σ H Q I q => h.run pins s σ H Q I (f σ H Q q)⟩
theorem _root_.L2.PW.imp {X : Cx} {e : Expr} {t t' : TT} (h : PW X e t) (f : ∀ σ H Q, t' σ H Q → t σ H Q) : PW X e t' := ⟨fun wh pins s σ H Q I q => h.run wh pins s σ H Q I (f σ H Q q)⟩
theorem _root_.L2.PA.imp {X : Cx} {es : List Expr} {t t' : TA} (h : PA X es t) (f : ∀ σ H Q, t' σ H Q → t σ H Q) : PA X es t' := ⟨fun pos pins s σ H Q I q => h.run pos pins s σ H Q I (f σ H Q q)⟩
theorem _root_.L2.PS.imp {X : Cx} {st : Stmt} {t t' : TS} (h : PS X st t) (f : ∀ D σ H, t' D σ H → t D σ H) : PS X st t' := ⟨fun pins s σ H D I q => h.run pins s σ H D I (f D σ H q)⟩
theorem _root_.L2.PSs.imp {X : Cx} {st : List Stmt} {t t' : TS} (h : PSs X st t) (f : ∀ D σ H, t' D σ H → t D σ H) : PSs X st t' := ⟨fun pins s σ H D I q => h.run pins s σ H D I (f D σ H q)⟩
/-- one part after another: its reading, then the rest from the state behind it -/
theorem tG.bind {f : Env → Sto → R α} {k : α → Env → Sto → R γ} {P : α → β → Hp → List Addr → Hp → Prop} {P2 : γ → δ → Hp → List Addr → Hp → Prop} {Q : δ → Hp → Prop}
    (h : tG Z W (fun v S => (f v S).bind fun a S => k a v S) P2 σ H Q) : tG Z W f P σ H fun b H1 => ∃ a F1 ρ1 v1 S1, EnvR Z F1 ρ1 v1 σ H1 ∧ StoR Z F1 ρ1 S1 H1 ∧ P a b F1 ρ1 H1 ∧ PostA Z W (k a v1 S1) P2 F1 ρ1 σ H1 Q := by
  obtain ⟨F, ρ, v, S, he, hs, hp⟩ := h
  exact ⟨F, ρ, v, S, he, hs, (PostA.bind (P := P) hp).mono fun a b F' ρ' H' e p g => by
    obtain ⟨a', F1, ρ1, S1, e1, s1, p1, q⟩ := g b p
    exact ⟨a', F1, ρ1, v, S1, he.ext e1, s1, p1, q⟩⟩
/-- two parts -/
theorem tG.bind2 {α' β' : Type} {f : Env → Sto → R α} {g : Env → Sto → R α'} {k : α → α' → Env → Sto → R γ} {P : α → β → Hp → List Addr → Hp → Prop} {P' : α' → β' → Hp → List Addr → Hp → Prop} {P2 : γ → δ → Hp → List Addr → Hp → Prop} {Q : δ → Hp → Prop}
    (hP : ∀ a b F ρ H F1 ρ1 H1 S, Ext nO F ρ H F1 ρ1 H1 → StoR Z F ρ S H → P a b F ρ H → P a b F1 ρ1 H1)
    (h : tG Z W (fun v S => (f v S).bind fun a S => (g v S).bind fun a' S => k a a' v S) P2 σ H Q) : tG Z W f P σ H fun b H1 => tG Z W g P' σ H1 fun b' H2 => ∃ a a' F2 ρ2 v2 S2, EnvR Z F2 ρ2 v2 σ H2 ∧ StoR Z F2 ρ2 S2 H2 ∧ P a b F2 ρ2 H2 ∧ P' a' b' F2 ρ2 H2 ∧ PostA Z W (k a a' v2 S2) P2 F2 ρ2 σ H2 Q := by
  obtain ⟨F, ρ, v, S, he, hs, hp⟩ := h
  refine ⟨F, ρ, v, S, he, hs, (PostA.bind (P := P) hp).mono fun a b F' ρ' H' e p k1 => ?_⟩
  obtain ⟨a1, F1, ρ1, S1, e1, s1, p1, q⟩ := k1 b p
  refine ⟨F1, ρ1, v, S1, he.ext e1, s1, (PostA.bind (P := P') q).mono fun a' b' F'' ρ'' H'' e2 p2 k2 => ?_⟩
  obtain ⟨a2, F2, ρ2, S2, e3, s2, p3, q2⟩ := k2 b' p2
  exact ⟨a1, a2, F2, ρ2, v, S2, (he.ext e1).ext e3, s2, hP _ _ _ _ _ _ _ _ _ e3 s1 p1, p3, q2⟩
theorem pV.ext {a : D} {b : V} {S : Sto} (e : Ext nO F ρ H F1 ρ1 H1) (_ : StoR Z F ρ S H) (p : pV Z a b F ρ H) : pV Z a b F1 ρ1 H1 := e.rep p
theorem StoR.notin (h : StoR Z F ρ S H) {a : Addr} {u : HO} (e : H a = some u) (hu : ∀ kv, u ≠ .dK kv) : a ∉ ρ := fun q => by
  obtain ⟨n, hn, rfl⟩ := List.mem_iff_getElem.mp q
  have hl : n < S.length := by rw [← h.len]; exact hn
  obtain ⟨_, vs, w, _⟩ := h.at_ n S[n] ρ[n] (by simp [hl]) (by simp [hn])
  rw [w] at e
  exact hu _ (Option.some.inj e).symm
theorem sqL_ext {O : Addr → Prop} {K : PySem.W.Frag} {a : Addr} {xs : List V} (e : Ext O F ρ H F1 ρ1 H1) (s : StoR Z F ρ S H) (no : ¬ O a) (h : SqL K H a xs) : SqL K H1 a xs := by
  rcases h with (h | ⟨o, h⟩) | h
  · exact .inl (.inl (e.keep _ _ h (s.notin h fun _ z => by cases z) no))
  · exact .inl (.inr ⟨o, e.keep _ _ h (s.notin h fun _ z => by cases z) no⟩)
  · exact .inr h
theorem rd_ext {O : Addr → Prop} {a : Addr} {xs : List V} (e : Ext O F ρ H F1 ρ1 H1) (s : StoR Z F ρ S H) (no : ¬ O a) (h : Rd H a (.lst xs)) : Rd H1 a (.lst xs) := by
  rcases h with h | ⟨o, h⟩
  · exact .inl (e.keep _ _ h (s.notin h fun _ z => by cases z) no)
  · exact .inr ⟨o, e.keep _ _ h (s.notin h fun _ z => by cases z) no⟩
theorem sqT_ext {O : Addr → Prop} {K : PySem.W.Frag} {a : Addr} {xs : List V} (e : Ext O F ρ H F1 ρ1 H1) (s : StoR Z F ρ S H) (no : ¬ O a) (h : SqT K H a xs) : SqT K H1 a xs := by
  rcases h with (h | ⟨o, h⟩) | h
  · exact .inl (.inl (e.keep _ _ h (s.notin h fun _ z => by cases z) no))
  · exact .inl (.inr ⟨o, e.keep _ _ h (s.notin h fun _ z => by cases z) no⟩)
  · exact .inr h
theorem pQ.ext {a : List D} {b : V} {S : Sto} (e : Ext nO F ρ H F1 ρ1 H1) (s : StoR Z F ρ S H) (p : pQ Z a b F ρ H) : pQ Z a b F1 ρ1 H1 := by
  obtain ⟨c, vs, rfl, h, r⟩ := p
  exact ⟨c, vs, rfl, h.imp (rd_ext e s fun q => q) (seqT e.le), e.reps r⟩
theorem pVs.ext {a : List D} {b : List V} {S : Sto} (e : Ext nO F ρ H F1 ρ1 H1) (_ : StoR Z F ρ S H) (p : pVs Z a b F ρ H) : pVs Z a b F1 ρ1 H1 := e.reps p
theorem pQ.of {d : D} {l : List D} {x : V} (h : StoR Z F ρ S H) (r : Rep Z F ρ d x) (hd : items d = some l) : pQ Z l x F ρ H := by
  cases r with
  | lst h1 r1 => cases hd; exact ⟨_, _, rfl, .inl (rdM h.le h1), r1⟩
  | tup h1 r1 => cases hd; exact ⟨_, _, rfl, .inr h1, r1⟩
  | _ => cases hd
theorem pL.ext {a : List D} {b : V} {S : Sto} (e : Ext nO F ρ H F1 ρ1 H1) (s : StoR Z F ρ S H) (p : pL Z a b F ρ H) : pL Z a b F1 ρ1 H1 := by
  obtain ⟨c, vs, rfl, h, r⟩ := p
  exact ⟨c, vs, rfl, rd_ext e s (fun q => q) h, e.reps r⟩
theorem pK.ext {a : D} {b : V} {S : Sto} (e : Ext nO F ρ H F1 ρ1 H1) (s : StoR Z F ρ S H) (p : pK Z a b F ρ H) : pK Z a b F1 ρ1 H1 := by
  rcases p with p | ⟨l, c, vs, rfl, rfl, h, r⟩
  · exact .inl (e.rep p)
  · exact .inr ⟨l, c, vs, rfl, rfl, rd_ext e s (fun q => q) h, e.reps r⟩
end
end Mi

set_option Elab.async false
set_option linter.all false
set_option maxRecDepth 100000
set_option maxHeartbeats 4000000
/-! Mi, part 4: expressions. -/
namespace Mi
open PySem PySem.Spec PyProof.Rows L2

theorem sz_line : SZ = sizeLine := by rw [sizeLine_eq]; rfl

section
variable {Z : Ci} {W : WX} {G : Ga} {X : Cx}
/-- a list just made: it is nobody's yet (H₀: the heap ahead of it) -/
def pF (Z : Ci) (H0 : Hp) : D → V → Hp → List Addr → Hp → Prop := fun d x F ρ H => ∃ l a vs, d = .lst l ∧ x = .ref a ∧ H a = some (.lst vs) ∧ F a = none ∧ H0 a = none ∧ Reps Z F ρ l vs
def tF (Z : Ci) (W : WX) (f : Env → Sto → R D) : TE := fun σ H Q => ∃ F ρ v S, EnvR Z F ρ v σ H ∧ StoR Z F ρ S H ∧ PostA Z W (f v S) (pF Z H) F ρ σ H Q
theorem still {F : Hp} {ρ : List Addr} {S : Sto} {H H0 F0 : Hp} {ρ0 : List Addr} {a : Addr} {vs : List V} (s : StoR Z F ρ S H) (h : H a = some (.lst vs)) (f : F a = none) (n : H0 a = none) (e : Ext nO F0 ρ0 H0 F ρ H) :
    Ext nO F0 ρ0 H0 (upd F a (.lst vs)) ρ H ∧ StoR Z (upd F a (.lst vs)) ρ S H := by
  have le : Same F (upd F a (.lst vs)) := fun b o q => by rw [upd_ne (ne_of_none q f)]; exact q
  refine ⟨⟨e.le.trans le, e.keep, e.dom, fun b o q => ?_, e.pre⟩, fun b o q => ?_, s.len, s.nd, fun k kv b h1 h2 => ?_⟩
  · by_cases z : b = a
    · subst z; exact .inr (.inl n)
    · rw [upd_ne z] at q; exact e.new b o q
  · by_cases z : b = a
    · subst z; rw [upd_same] at q; rw [← q]; exact h
    · rw [upd_ne z] at q; exact s.le b o q
  · obtain ⟨hf, us, hh, r⟩ := s.at_ k kv b h1 h2
    have z : b ≠ a := fun z => by subst z; rw [h] at hh; cases hh
    refine ⟨by rw [upd_ne z]; exact hf, us, hh, ?_⟩
    have := Reps.mono (m := []) le r
    rwa [List.append_nil] at this
theorem fresh_still {f : Env → Sto → R D} {σ : L2.St} {H : Hp} {Q : VK} (h : tG Z W f (pV Z) σ H Q) : tF Z W f σ H Q := by
  obtain ⟨F, ρ, v, S, he, hs, hp⟩ := h
  refine ⟨F, ρ, v, S, he, hs, ?_⟩
  cases q : f v S with
  | ok d S1 =>
    rw [q] at hp
    rintro x F' ρ' H' e s ⟨l, a, vs, rfl, rfl, h1, h2, h3, r⟩
    obtain ⟨e', s'⟩ := still s h1 h2 h3 e
    refine hp _ _ _ _ e' s' (.lst (.inl upd_same) ?_)
    have := Reps.mono (m := []) (F' := upd F' a (.lst vs)) (fun b o q => by rw [upd_ne (ne_of_none q h2)]; exact q) r
    rwa [List.append_nil] at this
  | ex c fs S1 => rw [q] at hp; exact hp
  | bad => rw [q] at hp; exact hp.elim

/-! ### names, constants -/
theorem se_var {i : Nat} {x : Str} {pos : Pos} (hN : X.N[i]? = some x) (hv : Vis X.env.scope x) (hd : (x == ("__debug__" : Str)) = false) (hcd : (x == ("__classdict__" : Str)) = false) : PE X (.Name x pos) (tE Z W G (.var i)) := by
  refine (pe_var (i := i) hN hv hd hcd).imp ?_
  rintro σ H Q ⟨F, ρ, v, S, he, hs, hp⟩
  unfold ev at hp
  cases q : getN v i with
  | none => rw [q] at hp; exact hp.elim
  | some s =>
    rw [q] at hp
    cases s with
    | va d =>
      obtain ⟨o, ho, y, rfl, r⟩ := he.get q
      exact ⟨y, ho, PostA.done hp hs r⟩
    | _ => exact hp.elim
theorem se_int {n : Int} {j pos} : PE X (.Constant (.int n) j pos) (tE Z W G (.int n)) := pe_int.imp fun σ H Q ⟨F, ρ, v, S, he, hs, hp⟩ => PostA.done (P := pV Z) (W := W) (σ := σ) (by unfold ev at hp; exact hp) hs .int
theorem se_bl {n : Bool} {j pos} : PE X (.Constant (.bool n) j pos) (tE Z W G (.bl n)) := pe_bl.imp fun σ H Q ⟨F, ρ, v, S, he, hs, hp⟩ => PostA.done (P := pV Z) (W := W) (σ := σ) (by unfold ev at hp; exact hp) hs .bl
theorem se_non {j pos} : PE X (.Constant .none j pos) (tE Z W G .non) := pe_non.imp fun σ H Q ⟨F, ρ, v, S, he, hs, hp⟩ => PostA.done (P := pV Z) (W := W) (σ := σ) (by unfold ev at hp; exact hp) hs .non
theorem se_str {s : List Nat} {x : Str} {j pos} (h : x = toS s) : PE X (.Constant (.str x) j pos) (tE Z W G (.str s)) := by
  subst h
  exact pe_str.imp fun σ H Q ⟨F, ρ, v, S, he, hs, hp⟩ => PostA.done (P := pV Z) (W := W) (σ := σ) (by unfold ev at hp; exact hp) hs .str

/-! ### argument lists, displays -/
theorem se_nil : PA X [] (tEs Z W G .nil) := pa_nil.imp fun σ H Q ⟨F, ρ, v, S, he, hs, hp⟩ => PostA.done (P := pVs Z) (W := W) (σ := σ) (by unfold evs at hp; exact hp) hs .nil
theorem se_cons {e : Ex} {es : Exs} {a : Expr} {as : List Expr} (ha : PE X a (tE Z W G e)) (hr : PA X as (tEs Z W G es)) (hs : starEach (a :: as) X.env = (false, eval a X.env) :: starEach as X.env) : PA X (a :: as) (tEs Z W G (.cons e es)) := by
  refine (pa_cons ha hr hs).imp fun σ H Q h => ?_
  have h' : tG Z W (fun v S => (ev G e v S).bind fun x S => (evs G es v S).bind fun l S => .ok (x :: l) S) (pVs Z) σ H Q := by
    obtain ⟨F, ρ, v, S, he, hs, hp⟩ := h
    exact ⟨F, ρ, v, S, he, hs, by unfold evs at hp; exact hp⟩
  obtain ⟨F, ρ, v, S, he, hs, hp⟩ := tG.bind2 (P := pV Z) (P' := pVs Z) (fun a b F ρ H F1 ρ1 H1 S e s p => pV.ext e s p) h'
  refine ⟨F, ρ, v, S, he, hs, hp.mono fun a b F' ρ' H' _ p g => ?_⟩
  obtain ⟨F, ρ, v, S, he, hs, hp⟩ := g b p
  refine ⟨F, ρ, v, S, he, hs, hp.mono fun a b F' ρ' H' _ p g => ?_⟩
  obtain ⟨d, l, F2, ρ2, v2, S2, he2, hs2, p1, p2, hq⟩ := g b p
  exact PostA.done hq hs2 (.cons p1 p2)
/-- f after the arguments -/
theorem tG.args {es : Exs} {k : List D → Env → Sto → R D} {P2 : D → V → Hp → List Addr → Hp → Prop} {σ : L2.St} {H : Hp} {Q : VK} (h : tG Z W (fun v S => (evs G es v S).bind fun l S => k l v S) P2 σ H Q) :
    tEs Z W G es σ H fun vs H1 => ∃ l F1 ρ1 v1 S1, EnvR Z F1 ρ1 v1 σ H1 ∧ StoR Z F1 ρ1 S1 H1 ∧ Reps Z F1 ρ1 l vs ∧ PostA Z W (k l v1 S1) P2 F1 ρ1 σ H1 Q := tG.bind (P := pVs Z) h
theorem se_tup {es : Exs} {as : List Expr} {j pos} (ha : PA X as (tEs Z W G es)) : PE X (.Tuple as j pos) (tE Z W G (.tup es)) := by
  refine (pe_tup (x1 := j) ha).imp fun σ H Q h => ?_
  have h' : tG Z W (fun v S => (evs G es v S).bind fun l S => if l.length ≤ SZ then .ok (.tup l) S else .bad) (pV Z) σ H Q := by
    obtain ⟨F, ρ, v, S, he, hs, hp⟩ := h
    exact ⟨F, ρ, v, S, he, hs, by unfold ev at hp; exact hp⟩
  obtain ⟨F, ρ, v, S, he, hs, hp⟩ := tG.args (k := fun l _ S => if l.length ≤ SZ then .ok (.tup l) S else .bad) h'
  refine ⟨F, ρ, v, S, he, hs, hp.mono fun a b F' ρ' H' _ p g => ?_⟩
  obtain ⟨l, F1, ρ1, v1, S1, he1, hs1, r, q⟩ := g b p
  by_cases z : l.length ≤ SZ
  · rw [if_pos z] at q
    rw [sz_line, r.len] at z
    refine ⟨z, fun p hp => ?_⟩
    have e : Ext nO F1 ρ1 H' (upd F1 p (.tup b)) ρ1 (upd H' p (.tup b)) := Ext.laid hp hs1.le
    exact q _ _ _ _ e (hs1.laid hp) (.tup (.inl (.inl upd_same)) (e.reps r))
  · rw [if_neg z] at q; exact q.elim
/-- a new list at p -/
theorem new_list {F : Hp} {ρ : List Addr} {H H0 : Hp} {S : Sto} {σ : L2.St} {Q : VK} {l : List D} {vs : List V} {p : Addr} (hs : StoR Z F ρ S H) (hp : H p = none) (h0 : H p = none → H0 p = none) (r : Reps Z F ρ l vs) (q : PostA Z W (.ok (.lst l) S) (pF Z H0) F ρ σ H Q) :
    Q (.ref p) (upd H p (.lst vs)) := by
  refine q _ F ρ _ (Ext.made hp) (hs.made hp) ⟨l, p, vs, rfl, rfl, upd_same, ?_, h0 hp, r⟩
  cases z : F p with
  | none => rfl
  | some u => rw [hs.le p u z] at hp; cases hp
theorem sf_lst {es : Exs} {as : List Expr} {pos} (ha : PA X as (tEs Z W G es)) : PE X (.List as pos) (tF Z W (ev G (.lst es))) := by
  refine (pe_lst ha).imp fun σ H Q h => ?_
  obtain ⟨F, ρ, v, S, he, hs, hp⟩ := h
  have h' : tG Z W (fun v S => (evs G es v S).bind fun l S => if l.length ≤ SZ then .ok (.lst l) S else .bad) (pF Z H) σ H Q := ⟨F, ρ, v, S, he, hs, by unfold ev at hp; exact hp⟩
  obtain ⟨F, ρ, v, S, he, hs, hp⟩ := tG.args (k := fun l _ S => if l.length ≤ SZ then .ok (.lst l) S else .bad) h'
  refine ⟨F, ρ, v, S, he, hs, hp.mono fun a b F' ρ' H' e p g => ?_⟩
  obtain ⟨l, F1, ρ1, v1, S1, he1, hs1, r, q⟩ := g b p
  by_cases z : l.length ≤ SZ
  · rw [if_pos z] at q
    rw [sz_line, r.len] at z
    exact ⟨z, fun p hp => new_list hs1 hp (e.dom p) r q⟩
  · rw [if_neg z] at q; exact q.elim
theorem _root_.L2.PE.still {e : Ex} {a : Expr} (h : PE X a (tF Z W (ev G e))) : PE X a (tE Z W G e) := h.imp fun σ H Q => fresh_still
end
end Mi

set_option Elab.async false
set_option linter.all false
set_option maxRecDepth 100000
set_option maxHeartbeats 4000000
/-! Mi, part 5: operators. -/
namespace Mi
open PySem PySem.Spec PyProof.Rows L2

def opO : Bi → Operator
  | .add => .Add
  | .sub => .Sub
  | .mul => .Mult
  | .fdiv => .FloorDiv
  | .mod => .Mod
  | .pow => .Pow
  | .band => .BitAnd
  | .bor => .BitOr
  | .bxor => .BitXor
  | .shl => .LShift
  | .shr => .RShift
def cmO : Cm → CmpOp
  | .lt => .Lt
  | .le => .LtE
  | .gt => .Gt
  | .ge => .GtE
  | .eq => .Eq
  | .ne => .NotEq
  | .isin => .In
  | .notin => .NotIn
abbrev W0 : WX := fun _ _ _ _ => False
def isIns : D → Bool
  | .ins _ _ => true
  | _ => false
/-- an operator on two values, by the interpreter -/
def rB (Z : Ci) (G : Ga) (o : Bi) : R2 := fun x y H Q => ∃ F ρ S dx dy, StoR Z F ρ S H ∧ Rep Z F ρ dx x ∧ Rep Z F ρ dy y ∧ PostA Z W0 (binop G o dx dy S) (pV Z) F ρ [] H Q
/-- .. where one of both is an instance -/
def rBi (Z : Ci) (G : Ga) (o : Bi) : R2 := fun x y H Q => ∃ F ρ S dx dy, (isIns dx = true ∨ isIns dy = true) ∧ StoR Z F ρ S H ∧ Rep Z F ρ dx x ∧ Rep Z F ρ dy y ∧ PostA Z W0 (binop G o dx dy S) (pV Z) F ρ [] H Q
/-- .. on plain values -/
def rBp (Z : Ci) (o : Bi) : R2 := fun x y H Q => ∃ F ρ S dx dy d, StoR Z F ρ S H ∧ Rep Z F ρ dx x ∧ Rep Z F ρ dy y ∧ binP o dx dy = some d ∧ PostA Z W0 (.ok d S) (pV Z) F ρ [] H Q
section
variable {Z : Ci} {W : WX} {G : Ga} {X : Cx}
theorem binop_plain {o : Bi} {x y : D} {S : Sto} (hx : isIns x = false) (hy : isIns y = false) : binop G o x y S = match binP o x y with
    | some d => .ok d S
    | none => .bad := by
  cases x <;> first | (cases hx; done) | skip
  all_goals cases y <;> first | rfl | cases hy
theorem opr_all {o : Bi} (hp : OpR X (binaryOp (opO o)) (rBp Z o)) (hi : OpR X (binaryOp (opO o)) (rBi Z G o)) : OpR X (binaryOp (opO o)) (rB Z G o) := by
  intro pins s σ H x y v u Q I rx ry h
  obtain ⟨F, ρ, S, dx, dy, hs, r1, r2, hq⟩ := h
  cases h1 : isIns dx with
  | true => exact hi pins s σ H x y v u Q I rx ry ⟨F, ρ, S, dx, dy, .inl h1, hs, r1, r2, hq⟩
  | false =>
    cases h2 : isIns dy with
    | true => exact hi pins s σ H x y v u Q I rx ry ⟨F, ρ, S, dx, dy, .inr h2, hs, r1, r2, hq⟩
    | false =>
      rw [binop_plain h1 h2] at hq
      cases e : binP o dx dy with
      | none => rw [e] at hq; exact hq.elim
      | some d => rw [e] at hq; exact hp pins s σ H x y v u Q I rx ry ⟨F, ρ, S, dx, dy, d, hs, r1, r2, e, hq⟩
/-- lists that are tracked or known -/
theorem rd_list {pins : List (Addr × Obj)} {σ : L2.St} {H : Hp} {s : Shared} {a : Addr} {xs : List V} (I : Inv X pins σ H s) (h : Rd H a (.lst xs)) :
    xs.length ≤ sizeLine ∧ ∃ (us : List Value) (n : Nat), Vals xs us ∧ xs.length = us.length ∧ s.heap.get? a = some { cls := .type "list", data := .seq us.toArray n } := by
  obtain ⟨z, us, n, r, e⟩ := h.ok I.hok
  exact ⟨z, us, n, r, r.length, e⟩
theorem add_lists {pins : List (Addr × Obj)} {s : Shared} {σ : L2.St} {H : Hp} {a b : Addr} {xs zs : List V} {Q : VK} (I : Inv X pins σ H s) (h1 : Rd H a (.lst xs)) (h2 : Rd H b (.lst zs)) (hz : xs.length + zs.length ≤ sizeLine)
    (q : ∀ p, H p = none → Q (.ref p) (upd H p (.lst (xs ++ zs)))) : wpAny (model X.prog X.w) X.A (binaryOp .Add (.ref a) (.ref b)) (EP X pins σ Q) X.xe s := by
  obtain ⟨_, us, n, r, l1, g1⟩ := rd_list I h1
  obtain ⟨_, ws, m, r', l2, g2⟩ := rd_list I h2
  refine PySem.P.add_list g1 g2 ?_ (by simp only [List.size_toArray]; omega)
  rw [show us.toArray ++ ws.toArray = (us ++ ws).toArray by simp]
  exact ⟨.ref _, _, I.lnew (t' := s.toks) (r.append r') (by simp only [List.length_append]; omega), rfl, q _ I.fresh⟩
/-- the end at a value that needs nothing of the heap -/
theorem fin_val {F : Hp} {ρ : List Addr} {S : Sto} {H : Hp} {d : D} {x : V} {Q : VK} (hs : StoR Z F ρ S H) (r : Rep Z F ρ d x) (q : PostA Z W (.ok d S) (pV Z) F ρ [] H Q) : Q x H := PostA.done q hs r
theorem fin_lst {F : Hp} {ρ : List Addr} {S : Sto} {H : Hp} {l : List D} {vs : List V} {Q : VK} {p : Addr} (hs : StoR Z F ρ S H) (hp : H p = none) (r : Reps Z F ρ l vs) (q : PostA Z W (.ok (.lst l) S) (pV Z) F ρ [] H Q) : Q (.ref p) (upd H p (.lst vs)) := by
  have e : Ext nO F ρ H (upd F p (.lst vs)) ρ (upd H p (.lst vs)) := Ext.laid hp hs.le
  exact q _ _ _ _ e (hs.laid hp) (.lst (.inl upd_same) (e.reps r))
theorem fin_tup {F : Hp} {ρ : List Addr} {S : Sto} {H : Hp} {l : List D} {vs : List V} {Q : VK} {p : Addr} (hs : StoR Z F ρ S H) (hp : H p = none) (r : Reps Z F ρ l vs) (q : PostA Z W (.ok (.tup l) S) (pV Z) F ρ [] H Q) : Q (.ref p) (upd H p (.tup vs)) := by
  have e : Ext nO F ρ H (upd F p (.tup vs)) ρ (upd H p (.tup vs)) := Ext.laid hp hs.le
  exact q _ _ _ _ e (hs.laid hp) (.tup (.inl (.inl upd_same)) (e.reps r))
theorem toS_app (a b : List Nat) : toS (a ++ b) = toS a ++ toS b := by
  show (⟨(a ++ b).toArray⟩ : Str) = (⟨a.toArray ++ b.toArray⟩ : Str)
  simp
theorem toS_len (a : List Nat) : (toS a).length = a.length := by
  show a.toArray.size = a.length
  simp
theorem opp_add (hK : X.K = Z.K) : OpR X (binaryOp .Add) (rBp Z .add) := by
  intro pins s σ H x y v u Q I rx ry h
  obtain ⟨F, ρ, S, dx, dy, d, hs, r1, r2, e, hq⟩ := h
  cases r1 <;> cases r2 <;> simp only [binP] at e <;> first | (cases e; done) | skip
  case int.int i j => cases e; exact op_add pins s σ H _ _ v u Q I rx ry ⟨i, j, rfl, rfl, fin_val hs .int hq⟩
  case str.str a b =>
    by_cases z : a.length + b.length ≤ SZ
    · rw [if_pos z] at e; cases e
      refine op_add_str pins s σ H _ _ v u Q I rx ry ⟨toS a, toS b, rfl, rfl, by rw [toS_len, toS_len, ← sz_line]; exact z, ?_⟩
      rw [← toS_app]
      exact fin_val hs .str hq
    · rw [if_neg z] at e; cases e
  case lst.lst a xs l h1 q1 b ys m h2 q2 =>
    by_cases z : l.length + m.length ≤ SZ
    · rw [if_pos z] at e; cases e
      rw [sz_line, q1.len, q2.len] at z
      cases rx; cases ry
      exact add_lists I (rdM hs.le h1) (rdM hs.le h2) z fun p hp => fin_lst hs hp (q1.app q2) hq
    · rw [if_neg z] at e; cases e
  case tup.tup a xs l h1 q1 b ys m h2 q2 =>
    by_cases z : l.length + m.length ≤ SZ
    · rw [if_pos z] at e; cases e
      rw [sz_line, q1.len, q2.len] at z
      refine op_catA pins s σ H _ _ v u Q I rx ry ⟨a, b, xs, ys, rfl, rfl, by rw [hK]; exact seqT hs.le h1, by rw [hK]; exact seqT hs.le h2, z, fun e1 => ?_, fun e1 e2 => ?_, fun e1 e2 p hp => fin_tup hs hp (q1.app q2) hq⟩
      · subst e1; cases q1; exact fin_val hs (.tup h2 q2) hq
      · subst e2; cases q2; rw [List.append_nil] at hq; exact fin_val hs (.tup h1 q1) hq
    · rw [if_neg z] at e; cases e
theorem opp_sub : OpR X (binaryOp .Sub) (rBp Z .sub) := by
  intro pins s σ H x y v u Q I rx ry h
  obtain ⟨F, ρ, S, dx, dy, d, hs, r1, r2, e, hq⟩ := h
  cases r1 <;> cases r2 <;> simp only [binP] at e <;> first | (cases e; done) | skip
  case int.int i j => cases e; exact op_sub pins s σ H _ _ v u Q I rx ry ⟨i, j, rfl, rfl, fin_val hs .int hq⟩
  case bl.bl a b =>
    cases e
    cases rx; cases ry
    refine PyProof.Rows.sub_bool ⟨.int (b2 a - b2 b), H, I.tok _, ⟨s.toks, ?_⟩, fin_val hs .int hq⟩
    cases a <;> cases b <;> rfl
theorem rep_eq {α : Type} (l : List α) : ∀ n : Nat, rep l n = (List.replicate n l).flatten
  | 0 => rfl
  | n + 1 => by rw [List.replicate_succ, List.flatten_cons, ← rep_eq l n]; rfl
theorem Reps.rep {F : Hp} {ρ : List Addr} {l : List D} {vs : List V} (h : Reps Z F ρ l vs) : ∀ n : Nat, Reps Z F ρ (rep l n) (rep vs n)
  | 0 => .nil
  | n + 1 => h.app (Reps.rep h n)
theorem times_list {pins : List (Addr × Obj)} {s : Shared} {σ : L2.St} {H : Hp} {a : Addr} {xs : List V} {k : Int} {t : Tok} {Q : VK} (I : Inv X pins σ H s) (h : Rd H a (.lst xs)) (h1 : -(2 ^ 63) ≤ k) (h2 : k < 2 ^ 63) (hz : xs.length * k.toNat ≤ sizeLine)
    (q : ∀ p, H p = none → Q (.ref p) (upd H p (.lst (List.replicate k.toNat xs).flatten))) : wpAny (model X.prog X.w) X.A (binaryOp .Mult (.ref a) (.int k t)) (EP X pins σ Q) X.xe s := by
  obtain ⟨_, us, n, r, hl, g⟩ := rd_list I h
  have room : us.toArray.size * k.toNat ≤ sizeLine := by simp only [List.size_toArray]; rw [← hl]; exact hz
  have cap : ¬ us.toArray.size * k.toNat > (2 ^ 63 - 1) / 8 := by
    have := sizeLine_eq
    omega
  have fit : ¬ (!Builtin.List.listFitsIndex k) = true := by rw [fitsIndex_both h1 h2]; decide
  have long : ¬ Builtin.List.listTooLong (us.toArray.size * k.toNat) = true := by rw [notLongL room]; decide
  have made : List.foldl (fun x1 x2 => x1 ++ x2) #[] (List.replicate (if us.toArray.isEmpty = true then 0 else k.toNat) us.toArray) = (List.replicate k.toNat us).flatten.toArray := by
    have f0 : ∀ m : Nat, List.foldl (fun x1 x2 => x1 ++ x2) #[] (List.replicate m us.toArray) = (List.replicate m us).flatten.toArray := fun m => by simpa using foldl_rep us m []
    rw [f0]
    cases us with
    | nil => simp
    | cons a r' => rw [if_neg (by simp)]
  refine wpAny_binaryOp_repeat_ref (T := "list") (U := "int") (by decide) ⟨_, g, rfl⟩ (fun s' => typeIs_int s' k t) noFill_list_mul F.fills_int_mul F.slot_int_rmul repeat_list F.slot_int_index.lookup
    (call_meets F.slot_int_rmul (typeIs_int s k t) F.entry_int_rmul (F.args_int_rmul_2 _ _) (int___rmul___int_list k t a us.toArray n)
      ⟨g, rfl, ⟨_, g, rfl⟩, call_meets F.slot_list_mul ⟨_, g, rfl⟩ F.entry_list_mul (F.args_list_mul_2 _ _) (AutoListH.list___mul___list_int_3 a us.toArray n k t fit cap long) ⟨g, ?_⟩⟩)
  rw [made]
  exact ⟨.ref _, _, I.lnew (t' := s.toks) (r.rep k.toNat) (by rw [PyProof.Rows.lm_len_rep_flat, Nat.mul_comm]; exact hz), rfl, q _ I.fresh⟩
theorem opp_mul : OpR X (binaryOp .Mult) (rBp Z .mul) := by
  intro pins s σ H x y v u Q I rx ry h
  obtain ⟨F, ρ, S, dx, dy, d, hs, r1, r2, e, hq⟩ := h
  cases r1 <;> cases r2 <;> simp only [binP] at e <;> first | (cases e; done) | skip
  case int.int i j =>
    by_cases z : mulOk i j = true
    · rw [if_pos z] at e; cases e
      unfold mulOk at z
      simp only [Bool.or_eq_true, decide_eq_true_eq] at z
      rcases z with (z | z) | z
      · exact op_mul pins s σ H _ _ v u Q I rx ry ⟨i, j, rfl, rfl, .inl ⟨by omega, by omega⟩, fin_val hs .int hq⟩
      · exact op_mul pins s σ H _ _ v u Q I rx ry ⟨i, j, rfl, rfl, .inr ⟨by omega, by omega⟩, fin_val hs .int hq⟩
      · exact op_mulW pins s σ H _ _ v u Q I rx ry ⟨i, j, rfl, rfl, (by show i.natAbs.log2 + j.natAbs.log2 < 1000000; omega), fin_val hs .int hq⟩
    · rw [if_neg z] at e; cases e
  case lst.int a xs l h1 q1 k =>
    by_cases z : k < 9223372036854775808 ∧ -9223372036854775808 ≤ k ∧ l.length * k.toNat ≤ SZ
    · rw [if_pos z] at e; cases e
      obtain ⟨z1, z2, z3⟩ := z
      cases rx
      obtain ⟨t, rfl⟩ := ry
      refine times_list I (rdM hs.le h1) (by omega) (by omega) (by rw [← q1.len, ← sz_line]; exact z3) fun p hp => ?_
      rw [← rep_eq]
      exact fin_lst hs hp (q1.rep _) hq
    · rw [if_neg z] at e; cases e
theorem opp_fdiv : OpR X (binaryOp .FloorDiv) (rBp Z .fdiv) := by
  intro pins s σ H x y v u Q I rx ry h
  obtain ⟨F, ρ, S, dx, dy, d, hs, r1, r2, e, hq⟩ := h
  cases r1 <;> cases r2 <;> simp only [binP] at e <;> first | (cases e; done) | skip
  case int.int i j =>
    by_cases z : divOk j = true
    · rw [if_pos z] at e; cases e
      unfold divOk at z
      simp only [Bool.or_eq_true, Bool.and_eq_true, decide_eq_true_eq] at z
      rcases z with ⟨z1, z2⟩ | ⟨z1, z2⟩
      · exact op_fdivN pins s σ H _ _ v u Q I rx ry ⟨i, j, rfl, rfl, ⟨z1, z2⟩, fin_val hs .int hq⟩
      · refine op_fdivW pins s σ H _ _ v u Q I rx ry ⟨i, j, rfl, rfl, ⟨z1, z2⟩, ?_⟩
        rw [Int.fdiv_eq_ediv_of_nonneg i (Int.le_of_lt z1)] at hq
        exact fin_val hs .int hq
    · rw [if_neg z] at e; cases e
theorem opp_mod : OpR X (binaryOp .Mod) (rBp Z .mod) := by
  intro pins s σ H x y v u Q I rx ry h
  obtain ⟨F, ρ, S, dx, dy, d, hs, r1, r2, e, hq⟩ := h
  cases r1 <;> cases r2 <;> simp only [binP] at e <;> first | (cases e; done) | skip
  case int.int i j =>
    by_cases z : j ≠ 0
    · rw [if_pos z] at e; cases e
      exact op_modN pins s σ H _ _ v u Q I rx ry ⟨i, j, rfl, rfl, z, fin_val hs .int hq⟩
    · rw [if_neg z] at e; cases e
theorem opp_pow : OpR X (binaryOp .Pow) (rBp Z .pow) := by
  intro pins s σ H x y v u Q I rx ry h
  obtain ⟨F, ρ, S, dx, dy, d, hs, r1, r2, e, hq⟩ := h
  cases r1 <;> cases r2 <;> simp only [binP] at e <;> first | (cases e; done) | skip
  case int.int i j =>
    by_cases z : powOk i j = true
    · rw [if_pos z] at e; cases e
      unfold powOk at z
      simp only [Bool.and_eq_true, decide_eq_true_eq] at z
      exact op_pow pins s σ H _ _ v u Q I rx ry ⟨i, j, rfl, rfl, ⟨z.1.1, z.1.2, by have := z.2; omega⟩, fin_val hs .int hq⟩
    · rw [if_neg z] at e; cases e
/-- every operator on plain values -/
theorem opp_all (hK : X.K = Z.K) : ∀ o : Bi, OpR X (binaryOp (opO o)) (rBp Z o)
  | .add => opp_add hK
  | .sub => opp_sub
  | .mul => opp_mul
  | .fdiv => opp_fdiv
  | .mod => opp_mod
  | .pow => opp_pow
  | .band => fun _ _ _ _ _ _ _ _ _ _ _ _ ⟨_, _, _, _, _, _, _, _, _, e, _⟩ => by simp [binP] at e
  | .bor => fun _ _ _ _ _ _ _ _ _ _ _ _ ⟨_, _, _, _, _, _, _, _, _, e, _⟩ => by simp [binP] at e
  | .bxor => fun _ _ _ _ _ _ _ _ _ _ _ _ ⟨_, _, _, _, _, _, _, _, _, e, _⟩ => by simp [binP] at e
  | .shl => fun _ _ _ _ _ _ _ _ _ _ _ _ ⟨_, _, _, _, _, _, _, _, _, e, _⟩ => by simp [binP] at e
  | .shr => fun _ _ _ _ _ _ _ _ _ _ _ _ ⟨_, _, _, _, _, _, _, _, _, e, _⟩ => by simp [binP] at e

/-! ### comparisons -/
mutual
def toP : D → PyData
  | .non => .none
  | .bl b => .bool b
  | .int i => .int i
  | .str s => .str (toS s)
  | .lst l => .list (toPs l)
  | .tup l => .tuple (toPs l)
  | .ins _ _ => .none
  | .dr _ => .none
def toPs : List D → List PyData
  | [] => []
  | d :: l => toP d :: toPs l
end
theorem toPs_map : ∀ l : List D, toPs l = l.map toP
  | [] => rfl
  | d :: l => by
    show toP d :: toPs l = toP d :: l.map toP
    rw [toPs_map l]
theorem any_same {α : Type} {f g : α → Bool} : ∀ {l : List α}, (∀ d ∈ l, f d = g d) → l.any f = l.any g
  | [], _ => rfl
  | a :: l, h => by
    rw [List.any_cons, List.any_cons, h a (by simp), any_same fun d hd => h d (by simp [hd])]
theorem toS_inj {a b : List Nat} : (toS a == toS b) = (a == b) := by
  by_cases h : a = b
  · subst h; simp
  · have : toS a ≠ toS b := fun e => h (by
      have e2 : a.toArray = b.toArray := congrArg Str.cps e
      simpa using congrArg Array.toList e2)
    rw [beq_eq_false_iff_ne.mpr h]
    exact beq_eq_false_iff_ne.mpr this
mutual
theorem eqv_toP : ∀ (n m : Nat) (x y : D), shN n x = true → shN m y = true → PyData.eqv (toP x) (toP y) = eqB x y
  | 0, _, _, _, h, _ => by cases h
  | _ + 1, 0, _, _, _, h => by cases h
  | n + 1, m + 1, x, y, h, k => by
    cases x <;> cases y <;> first | (simp [shN] at h; done) | (simp [shN] at k; done) | skip
    all_goals simp only [toP, PyData.eqv, eqB]
    case str.str a b => exact toS_inj
    case lst.lst a b => exact eqvAll_toP n m a b (by simpa [shN] using h) (by simpa [shN] using k)
    case tup.tup a b => exact eqvAll_toP n m a b (by simpa [shN] using h) (by simpa [shN] using k)
    case bl.int a b => cases a <;> rfl
    case int.bl a b => cases b <;> rfl
theorem eqvAll_toP : ∀ (n m : Nat) (x y : List D), (∀ d ∈ x, shN n d = true) → (∀ d ∈ y, shN m d = true) → PyData.eqvAll (toPs x) (toPs y) = eqL x y
  | _, _, [], [], _, _ => rfl
  | _, _, [], _ :: _, _, _ => rfl
  | _, _, _ :: _, [], _, _ => rfl
  | n, m, a :: x, b :: y, h, k => by
    show (PyData.eqv (toP a) (toP b) && PyData.eqvAll (toPs x) (toPs y)) = (eqB a b && eqL x y)
    rw [eqv_toP n m a b (h a (by simp)) (k b (by simp)), eqvAll_toP n m x y (fun d hd => h d (by simp [hd])) (fun d hd => k d (by simp [hd]))]
end
mutual
theorem lay_toP : ∀ (n : Nat) (x : D), shN n x = true → (toP x).canLay0 = true ∧ (toP x).depth ≤ n
  | 0, _, h => by cases h
  | n + 1, x, h => by
    cases x <;> first | (simp [shN] at h; done) | skip
    all_goals simp only [toP, PyData.canLay0, PyData.depth]
    case str s =>
      refine ⟨?_, Nat.zero_le _⟩
      have h' : ∀ c ∈ s, c < 1114112 := by simpa [shN] using h
      show (toS s).cps.all (· < 0x110000) = true
      show s.toArray.all _ = true
      simpa using h'
    case lst l =>
      obtain ⟨a, b⟩ := layAll_toP n l (by simpa [shN] using h)
      exact ⟨a, Nat.succ_le_succ b⟩
    case tup l =>
      obtain ⟨a, b⟩ := layAll_toP n l (by simpa [shN] using h)
      exact ⟨a, Nat.succ_le_succ b⟩
    all_goals exact ⟨trivial, Nat.zero_le _⟩
theorem layAll_toP : ∀ (n : Nat) (x : List D), (∀ d ∈ x, shN n d = true) → PyData.canLayAll0 (toPs x) = true ∧ PyData.depthAll (toPs x) ≤ n
  | _, [], _ => ⟨rfl, Nat.zero_le _⟩
  | n, a :: x, h => by
    obtain ⟨a1, a2⟩ := lay_toP n a (h a (by simp))
    obtain ⟨b1, b2⟩ := layAll_toP n x fun d hd => h d (by simp [hd])
    refine ⟨?_, ?_⟩
    · show ((toP a).canLay0 && PyData.canLayAll0 (toPs x)) = true
      rw [a1, b1]; rfl
    · show max (toP a).depth (PyData.depthAll (toPs x)) ≤ n
      omega
end
theorem shaped_toP {n : Nat} {x : D} (h : shN n x = true) (hn : n ≤ 64) : SeqAt.shaped (toP x) = true := by
  obtain ⟨a, b⟩ := lay_toP n x h
  unfold SeqAt.shaped
  rw [a]
  simp only [Bool.true_and, decide_eq_true_eq]
  omega
mutual
theorem Rep.dp {F H : Hp} {ρ : List Addr} (le : Same F H) (hK : X.K = Z.K) : ∀ (n : Nat) (x : D) (v : V), shN n x = true → Rep Z F ρ x v → Dp X.K H v (toP x)
  | 0, _, _, h, _ => by cases h
  | n + 1, x, v, h, r => by
    cases r with
    | non => exact .non
    | bl => exact .bl _
    | int => exact .int _
    | str => exact .str _
    | lst h1 r1 => exact .lst (.inl (rdM le h1)) (Reps.dp le hK n _ _ (by simpa [shN] using h) r1)
    | tup h1 r1 => exact .tup (by rw [hK]; exact seqT le h1) (Reps.dp le hK n _ _ (by simpa [shN] using h) r1)
    | ins h1 hl r1 => simp [shN] at h
    | dr h1 => simp [shN] at h
theorem Reps.dp {F H : Hp} {ρ : List Addr} (le : Same F H) (hK : X.K = Z.K) : ∀ (n : Nat) (l : List D) (vs : List V), (∀ d ∈ l, shN n d = true) → Reps Z F ρ l vs → DpAll X.K H vs (toPs l)
  | _, [], _, _, r => by cases r; exact .nil
  | n, a :: l, _, h, r => by
    cases r with
    | cons r1 r2 => exact .cons (Rep.dp le hK n a _ (h a (by simp)) r1) (Reps.dp le hK n l _ (fun d hd => h d (by simp [hd])) r2)
end
/-- a comparison of plain values, by the interpreter -/
def rC (Z : Ci) (o : Cm) : R2 := fun x y H Q => ∃ F ρ S dx dy b, StoR Z F ρ S H ∧ Rep Z F ρ dx x ∧ Rep Z F ρ dy y ∧ cmpP o dx dy = some b ∧ Q (.bl b) H
theorem opc_ord {f : Int → Int → Bool} {op : CmpOp} {o : Cm} (h : OpR X (compareOp op) (rI0 fun i j => .bl (f i j))) (hc : ∀ x y b, cmpP o x y = some b → ∃ i j, x = .int i ∧ y = .int j ∧ b = f i j) : OpR X (compareOp op) (rC Z o) := by
  intro pins s σ H x y v u Q I rx ry ⟨F, ρ, S, dx, dy, b, hs, r1, r2, e, q⟩
  obtain ⟨i, j, rfl, rfl, rfl⟩ := hc _ _ _ e
  cases r1; cases r2
  exact h pins s σ H _ _ v u Q I rx ry ⟨i, j, rfl, rfl, q⟩
theorem eqD_some {x y : D} {b : Bool} (h : eqD x y = some b) : shN 60 x = true ∧ shN 60 y = true ∧ b = eqB x y := by
  unfold eqD at h
  split at h
  · rename_i z
    simp only [Bool.and_eq_true] at z
    exact ⟨z.1, z.2, (Option.some.inj h).symm⟩
  · cases h
theorem opc_all (hK : X.K = Z.K) (hu : X.A.units + 65 < cLine) : ∀ o : Cm, OpR X (compareOp (cmO o)) (rC Z o)
  | .lt => opc_ord op_lt fun x y b h => by cases x <;> cases y <;> simp [cmpP] at h; exact ⟨_, _, rfl, rfl, h.symm⟩
  | .le => opc_ord op_le fun x y b h => by cases x <;> cases y <;> simp [cmpP] at h; exact ⟨_, _, rfl, rfl, h.symm⟩
  | .gt => opc_ord op_gt fun x y b h => by cases x <;> cases y <;> simp [cmpP] at h; exact ⟨_, _, rfl, rfl, h.symm⟩
  | .ge => opc_ord op_ge fun x y b h => by cases x <;> cases y <;> simp [cmpP] at h; exact ⟨_, _, rfl, rfl, h.symm⟩
  | .eq => fun pins s σ H x y v u Q I rx ry ⟨F, ρ, S, dx, dy, b, hs, r1, r2, e, q⟩ => by
    obtain ⟨z1, z2, rfl⟩ := eqD_some e
    rw [← eqv_toP 60 60 dx dy z1 z2] at q
    exact op_eqD (by omega) pins s σ H x y v u Q I rx ry ⟨toP dx, toP dy, r1.dp hs.le hK 60 _ _ z1, r2.dp hs.le hK 60 _ _ z2, shaped_toP z1 (by omega), shaped_toP z2 (by omega), q⟩
  | .ne => fun pins s σ H x y v u Q I rx ry ⟨F, ρ, S, dx, dy, b, hs, r1, r2, e, q⟩ => by
    have e' : (eqD dx dy).map not = some b := e
    cases w : eqD dx dy with
    | none => rw [w] at e'; cases e'
    | some c =>
      rw [w] at e'
      cases e'
      obtain ⟨z1, z2, rfl⟩ := eqD_some w
      rw [← eqv_toP 60 60 dx dy z1 z2] at q
      exact op_neD (by omega) pins s σ H x y v u Q I rx ry ⟨toP dx, toP dy, r1.dp hs.le hK 60 _ _ z1, r2.dp hs.le hK 60 _ _ z2, shaped_toP z1 (by omega), shaped_toP z2 (by omega), q⟩
  | .isin => fun pins s σ H x y v u Q I rx ry ⟨F, ρ, S, dx, dy, b, hs, r1, r2, e, q⟩ => by
    have key : ∀ l, inD dx l = some b → shN 60 dx = true ∧ (∀ d ∈ l, shN 59 d = true) ∧ b = (toPs l).any fun z => PyData.eqv z (toP dx) := fun l h => by
      unfold inD at h
      split at h
      · rename_i z
        simp only [Bool.and_eq_true, List.all_eq_true] at z
        refine ⟨z.1, z.2, ?_⟩
        rw [← Option.some.inj h, toPs_map, List.any_map]
        refine (any_same fun d hd => ?_)
        exact (eqv_toP 59 60 d dx (z.2 d hd) z.1).symm
      · cases h
    obtain ⟨as, rd1⟩ := Dp.reads I (toP dx) x v (r1.dp hs.le hK 60 _ _ (by
      cases r2 <;> simp only [cmpP] at e <;> first | (cases e; done) | exact (key _ e).1)) rx
    cases r2 with
    | lst h1 r =>
      obtain ⟨k1, k2, k3⟩ := key _ e
      obtain ⟨bs, rd2⟩ := Dp.reads I _ _ u (Dp.lst (.inl (rdM hs.le h1)) (Reps.dp hs.le hK 59 _ _ k2 r)) ry
      obtain ⟨l1, l2⟩ := layAll_toP 59 _ k2
      refine SeqAt.in_list_reads rd2 rd1 l1 (lay_toP 60 _ k1).1 ?_ ⟨.bl _, H, I, rfl, by rw [k3] at q; exact q⟩
      omega
    | tup h1 r =>
      obtain ⟨k1, k2, k3⟩ := key _ e
      obtain ⟨bs, rd2⟩ := Dp.reads I _ _ u (Dp.tup (by rw [hK]; exact seqT hs.le h1) (Reps.dp hs.le hK 59 _ _ k2 r)) ry
      obtain ⟨l1, l2⟩ := layAll_toP 59 _ k2
      refine SeqAt.in_tuple_reads rd2 rd1 l1 (lay_toP 60 _ k1).1 ?_ ⟨.bl _, H, I, rfl, by rw [k3] at q; exact q⟩
      omega
    | _ => simp only [cmpP] at e; cases e
  | .notin => fun pins s σ H x y v u Q I rx ry ⟨F, ρ, S, dx, dy, b, hs, r1, r2, e, q⟩ => by
    have key : ∀ l, (inD dx l).map not = some b → shN 60 dx = true ∧ (∀ d ∈ l, shN 59 d = true) ∧ b = !((toPs l).any fun z => PyData.eqv z (toP dx)) := fun l h => by
      unfold inD at h
      split at h
      · rename_i z
        simp only [Bool.and_eq_true, List.all_eq_true] at z
        refine ⟨z.1, z.2, ?_⟩
        rw [← Option.some.inj (show some (!(l.any fun y => eqB y dx)) = some b from h), toPs_map, List.any_map]
        refine congrArg not (any_same fun d hd => ?_)
        exact (eqv_toP 59 60 d dx (z.2 d hd) z.1).symm
      · cases h
    obtain ⟨as, rd1⟩ := Dp.reads I (toP dx) x v (r1.dp hs.le hK 60 _ _ (by
      cases r2 <;> simp only [cmpP] at e <;> first | (cases e; done) | exact (key _ e).1)) rx
    cases r2 with
    | lst h1 r =>
      obtain ⟨k1, k2, k3⟩ := key _ e
      obtain ⟨bs, rd2⟩ := Dp.reads I _ _ u (Dp.lst (.inl (rdM hs.le h1)) (Reps.dp hs.le hK 59 _ _ k2 r)) ry
      obtain ⟨l1, l2⟩ := layAll_toP 59 _ k2
      refine SeqAt.notIn_list_reads rd2 rd1 l1 (lay_toP 60 _ k1).1 ?_ ⟨.bl _, H, I, rfl, by rw [k3] at q; exact q⟩
      omega
    | tup h1 r =>
      obtain ⟨k1, k2, k3⟩ := key _ e
      obtain ⟨bs, rd2⟩ := Dp.reads I _ _ u (Dp.tup (by rw [hK]; exact seqT hs.le h1) (Reps.dp hs.le hK 59 _ _ k2 r)) ry
      obtain ⟨l1, l2⟩ := layAll_toP 59 _ k2
      refine SeqAt.notIn_tuple_reads rd2 rd1 l1 (lay_toP 60 _ k1).1 ?_ ⟨.bl _, H, I, rfl, by rw [k3] at q; exact q⟩
      omega
    | _ => simp only [cmpP] at e; cases e
end
end Mi

set_option Elab.async false
set_option linter.all false
set_option maxRecDepth 100000
set_option maxHeartbeats 4000000
/-! Mi, part 6: more expressions. -/
namespace Mi
open PySem PySem.Spec PyProof.Rows L2
section
variable {Z : Ci} {W : WX} {G : Ga} {X : Cx} {α β γ δ : Type}
/-- unfolding under a reading -/
theorem tG.eq {f g : Env → Sto → R α} {P : α → β → Hp → List Addr → Hp → Prop} {σ : L2.St} {H : Hp} {Q : β → Hp → Prop} (h : tG Z W f P σ H Q) (e : ∀ v S, f v S = g v S) : tG Z W g P σ H Q := by
  obtain ⟨F, ρ, v, S, he, hs, hp⟩ := h
  exact ⟨F, ρ, v, S, he, hs, by rw [← e]; exact hp⟩
theorem tG.wk {f : Env → Sto → R α} {P : α → β → Hp → List Addr → Hp → Prop} {σ : L2.St} {H : Hp} {Q Q' : β → Hp → Prop} (h : tG Z W f P σ H Q) (q : ∀ b H', Q b H' → Q' b H') : tG Z W f P σ H Q' := by
  obtain ⟨F, ρ, v, S, he, hs, hp⟩ := h
  exact ⟨F, ρ, v, S, he, hs, hp.mono fun a d F' ρ' H' _ p g => q d H' (g d p)⟩
/-- a known operand: its parts follow from the part's own reading -/
theorem tG.map {f : Env → Sto → R α} {k : α → Sto → R γ} {P : α → β → Hp → List Addr → Hp → Prop} {P2 : γ → β → Hp → List Addr → Hp → Prop} {σ : L2.St} {H : Hp} {Q : β → Hp → Prop}
    (h : tG Z W (fun v S => (f v S).bind fun a S => k a S) P2 σ H Q)
    (hk : ∀ a b F ρ H S, StoR Z F ρ S H → P a b F ρ H → (∃ c, k a S = .ok c S ∧ P2 c b F ρ H) ∨ k a S = .bad) : tG Z W f P σ H Q := by
  refine (tG.bind (P := P) (k := fun a _ S => k a S) h).wk fun b H' ⟨a, F1, ρ1, v1, S1, he, hs, p, q⟩ => ?_
  rcases hk a b F1 ρ1 H' S1 hs p with ⟨c, e, p2⟩ | e
  · rw [e] at q; exact PostA.done q hs p2
  · rw [e] at q; exact q.elim

/-! ### tests -/
theorem asB_bl {d : D} {S : Sto} : (∃ b, d = .bl b ∧ asB d S = .ok b S) ∨ asB d S = .bad := by
  cases d <;> first | exact .inr rfl | exact .inl ⟨_, rfl, rfl⟩
theorem st_val {e : Ex} {a : Expr} (h : PE X a (tE Z W G e)) (he : ∀ whole, isTrue a X.env whole = (do let v ← whole; standAt a.pos; holding [v] (truthy v))) : PT X a (tT Z W G e) := by
  refine (pt_val h he).imp fun σ H Q hq => ?_
  refine (tG.bind (P := pV Z) (k := fun x _ S => asB x S) hq).wk fun b H' ⟨a, F1, ρ1, v1, S1, he, hs, p, q⟩ => ?_
  rcases asB_bl (d := a) (S := S1) with ⟨c, rfl, e⟩ | e
  · rw [e] at q
    cases p
    exact ⟨c, rfl, PostA.done (P := pEq) q hs rfl⟩
  · rw [e] at q; exact q.elim
theorem R.bind_assoc {r : R α} {f : α → Sto → R β} {g : β → Sto → R γ} : (r.bind f).bind g = r.bind fun a S => (f a S).bind g := by
  cases r <;> rfl

/-! ### operators -/
theorem opc_nox {f : Option Nat} {l : List D} {S S' : Sto} {c : Nat} {fs : List D} (e : opc G f l S = .ex c fs S') : False := by
  unfold opc at e
  split at e
  · rename_i f
    cases w : G.call f l S <;> rw [w] at e <;> cases e
  · cases e
theorem binop_nox {o : Bi} {x y : D} {S S' : Sto} {c : Nat} {fs : List D} (e : binop G o x y S = .ex c fs S') : False := by
  unfold binop at e
  split at e
  · exact opc_nox e
  · exact opc_nox e
  · exact opc_nox e
  · split at e <;> cases e
theorem se_bin {o : Bi} {a b : Ex} {x y : Expr} {pos} (ho : OpR X (binaryOp (opO o)) (rB Z G o)) (ha : PE X x (tE Z W G a)) (hb : PE X y (tE Z W G b)) : PE X (.BinOp x (opO o) y pos) (tE Z W G (.bin o a b)) := by
  refine (pe_op ho ha hb).imp fun σ H Q h => ?_
  have h' := tG.bind2 (f := ev G a) (g := ev G b) (k := fun x y _ S => binop G o x y S) (P := pV Z) (P' := pV Z) (fun a b F ρ H F1 ρ1 H1 S e s p => pV.ext e s p) (h.eq (fun v S => by rw [ev] <;> rfl))
  refine h'.wk fun x1 H1 h1 => tG.wk h1 fun y1 H2 ⟨d, d', F2, ρ2, v2, S2, he, hs, p1, p2, q⟩ => ⟨F2, ρ2, S2, d, d', hs, p1, p2, ?_⟩
  -- an operator's own callee lets nothing out
  cases e : binop G o d d' S2 with
  | ok r S' => rw [e] at q; exact q
  | bad => rw [e] at q; exact q
  | ex c fs S' =>
    exfalso
    exact binop_nox e
theorem se_cmp {o : Cm} {a b : Ex} {x y : Expr} {pos} (ho : OpR X (compareOp (cmO o)) (rC Z o)) (ha : PE X x (tE Z W G a)) (hb : PE X y (tE Z W G b)) (hm : behindInMarks (cmO o) y = false) :
    PE X (.Compare x [cmO o] [y] pos) (tE Z W G (.cmp o a b)) ∧ PT X (.Compare x [cmO o] [y] pos) (tT Z W G (.cmp o a b)) := by
  have core : ∀ {δ : Type} {P2 : Bool → δ → Hp → List Addr → Hp → Prop} {σ : L2.St} {H : Hp} {Q : δ → Hp → Prop} {Q2 : VK}, tG Z W (fun v S => (ev G a v S).bind fun x S => (ev G b v S).bind fun y S => cmpD o x y S) P2 σ H Q →
      (∀ (b : Bool) H' F ρ S, StoR Z F ρ S H' → PostA Z W (.ok b S) P2 F ρ σ H' Q → Q2 (.bl b) H') → tOp (rC Z o) (tE Z W G a) (tE Z W G b) σ H Q2 := by
    intro δ P2 σ H Q Q2 h fin
    have h' := tG.bind2 (f := ev G a) (g := ev G b) (k := fun x y _ S => cmpD o x y S) (P := pV Z) (P' := pV Z) (fun a b F ρ H F1 ρ1 H1 S e s p => pV.ext e s p) h
    refine h'.wk fun x1 H1 h1 => tG.wk h1 fun y1 H2 ⟨d, d', F2, ρ2, v2, S2, he, hs, p1, p2, q⟩ => ?_
    unfold cmpD at q
    cases e : cmpP o d d' with
    | none => rw [e] at q; exact q.elim
    | some r => rw [e] at q; exact ⟨F2, ρ2, S2, d, d', r, hs, p1, p2, e, fin r _ _ _ _ hs q⟩
  refine ⟨(pe_cmpR ho ha hb hm).imp fun σ H Q h => ?_, (pt_cmpR ho ha hb hm).imp fun σ H Q h => ?_⟩
  · have h0 : tG Z W (fun v S => ((ev G a v S).bind fun x S => (ev G b v S).bind fun y S => cmpD o x y S).bind fun r S => .ok (.bl r) S) (pV Z) σ H Q := h.eq (fun v S => by rw [ev, R.bind_assoc]; congr 1; funext x S; rw [R.bind_assoc])
    have h1 := tG.bind (f := fun v S => (ev G a v S).bind fun x S => (ev G b v S).bind fun y S => cmpD o x y S) (k := fun r _ S => R.ok (D.bl r) S) (P := pEq) h0
    exact core h1 fun b H' F ρ S hs q => by
      obtain ⟨a', F1, ρ1, v1, S1, he1, hs1, p1, q1⟩ := PostA.done (b := b) (P := pEq) q hs rfl
      obtain rfl : a' = b := p1
      exact PostA.done q1 hs1 .bl
  · have h0 : tG Z W (fun v S => (ev G a v S).bind fun x S => (ev G b v S).bind fun y S => cmpD o x y S) pEq σ H Q := h.eq (fun v S => by
      rw [ev, R.bind_assoc]; congr 1; funext x S; rw [R.bind_assoc]; congr 1; funext y S; unfold cmpD; cases cmpP o x y <;> rfl)
    exact core h0 fun b H' F ρ S hs q => ⟨b, rfl, PostA.done (P := pEq) q hs rfl⟩
theorem se_not {a : Ex} {x : Expr} {pos} (ha : PE X x (tE Z W G a)) (ht : PT X x (tT Z W G a)) : PE X (.UnaryOp .Not x pos) (tE Z W G (.not a)) ∧ PT X (.UnaryOp .Not x pos) (tT Z W G (.not a)) := by
  refine ⟨(pe_not ha).imp fun σ H Q h => ?_, (pt_not ht).imp fun σ H Q h => ?_⟩
  · refine (tG.bind (P := pV Z) (k := fun x _ S => (asB x S).bind fun b S => .ok (.bl (!b)) S) (h.eq fun v S => by rw [ev])).wk fun b H' ⟨a, F1, ρ1, v1, S1, he, hs, p, q⟩ => ?_
    rcases asB_bl (d := a) (S := S1) with ⟨c, rfl, e⟩ | e
    · rw [e] at q; cases p; exact ⟨c, rfl, PostA.done q hs .bl⟩
    · rw [e] at q; exact q.elim
  · refine (tG.bind (f := fun v S => (ev G a v S).bind asB) (P := pEq) (k := fun b _ S => .ok (!b) S) (h.eq fun v S => by
      rw [ev, R.bind_assoc, R.bind_assoc]; congr 1; funext x S; cases asB x S <;> rfl)).wk fun b H' ⟨a, F1, ρ1, v1, S1, he, hs, p, q⟩ => ?_
    obtain rfl : a = b := p
    exact PostA.done (P := pEq) q hs rfl
end
end Mi

set_option Elab.async false
set_option linter.all false
set_option maxRecDepth 100000
set_option maxHeartbeats 4000000
/-! Mi, part 7: chains, and, or, operands, places, slices. -/
namespace Mi
open PySem PySem.Spec PyProof.Rows L2
section
variable {Z : Ci} {W : WX} {G : Ga} {X : Cx} {α β γ δ : Type}
/-! ### chains -/
theorem se_chn {o p : Cm} {a b c : Ex} {x y z : Expr} {pos} (ho : OpR X (compareOp (cmO o)) (rC Z o)) (hp : OpR X (compareOp (cmO p)) (rC Z p)) (ha : PE X x (tE Z W G a)) (hb : PE X y (tE Z W G b)) (hc : PE X z (tE Z W G c))
    (hm : lastMarks [cmO o, cmO p] [y, z] = false) : PE X (.Compare x [cmO o, cmO p] [y, z] pos) (tE Z W G (.chn o p a b c)) ∧ PT X (.Compare x [cmO o, cmO p] [y, z] pos) (tT Z W G (.chn o p a b c)) := by
  have core : ∀ {σ : L2.St} {H : Hp} {Q : VK}, tE Z W G (.chn o p a b c) σ H Q → tChain (rC Z o) (rC Z p) (tE Z W G a) (tE Z W G b) (tE Z W G c) σ H Q := by
    intro σ H Q h
    have h' := tG.bind2 (f := ev G a) (g := ev G b) (k := fun x y v S => (cmpD o x y S).bind fun r S => if r = true then (ev G c v S).bind fun z S => (cmpD p y z S).bind fun r S => .ok (D.bl r) S else .ok (D.bl false) S) (P := pV Z) (P' := pV Z)
      (fun a b F ρ H F1 ρ1 H1 S e s p => pV.ext e s p) (h.eq fun v S => by rw [ev])
    refine h'.wk fun x1 H1 h1 => tG.wk h1 fun y1 H2 ⟨d, d', F2, ρ2, v2, S2, he, hs, p1, p2, q⟩ => ?_
    unfold cmpD at q
    cases e : cmpP o d d' with
    | none => rw [e] at q; exact q.elim
    | some r =>
      rw [e] at q
      refine ⟨F2, ρ2, S2, d, d', r, hs, p1, p2, e, r, rfl, ?_⟩
      cases r with
      | false => exact PostA.done (P := pV Z) q hs .bl
      | true =>
        refine ⟨F2, ρ2, v2, S2, he, hs, ?_⟩
        have q' : PostA Z W ((ev G c v2 S2).bind fun z S => (match cmpP p d' z with | some b => R.ok b S | none => R.bad).bind fun r S => .ok (D.bl r) S) (pV Z) F2 ρ2 σ H2 Q := q
        refine (PostA.bind (P := pV Z) q').mono fun dz z1 F3 ρ3 H3 e3 p3 k3 => ?_
        obtain ⟨dz', F4, ρ4, S4, e4, s4, p4, q4⟩ := k3 z1 p3
        cases e5 : cmpP p d' dz' with
        | none => rw [e5] at q4; exact q4.elim
        | some r2 => rw [e5] at q4; exact ⟨F4, ρ4, S4, d', dz', r2, s4, e4.rep p2, p4, e5, PostA.done (P := pV Z) q4 s4 .bl⟩
  refine ⟨(pe_chain ho hp ha hb hc hm).imp fun σ H Q h => core h, (pt_chain ho hp ha hb hc hm).imp fun σ H Q h => ?_⟩
  -- as a test: the value is a bool
  refine core (Q := fun x H' => ∃ k, x = .bl k ∧ Q k H') ?_
  obtain ⟨F, ρ, v, S, he, hs, hp⟩ := h
  exact ⟨F, ρ, v, S, he, hs, (PostA.bind (P := pV Z) hp).mono fun a b F' ρ' H' _ p k => by
    obtain ⟨a', F1, ρ1, S1, e1, s1, p1, q1⟩ := k b p
    rcases asB_bl (d := a') (S := S1) with ⟨r, rfl, e⟩ | e
    · rw [e] at q1; cases p1; exact ⟨r, rfl, PostA.done (P := pEq) q1 s1 rfl⟩
    · rw [e] at q1; exact q1.elim⟩

/-! ### and, or -/
/-- tests of a row of operands -/
def AllPT (X : Cx) (Z : Ci) (W : WX) (G : Ga) : Exs → List Expr → Prop
  | .nil, [] => True
  | .cons e es, a :: as => (PE X a (tE Z W G e) ∧ PT X a (tT Z W G e)) ∧ AllPT X Z W G es as
  | _, _ => False
theorem tT_bind {e : Ex} {k : Bool → Env → Sto → R Bool} {σ : L2.St} {H : Hp} {Q : Bool → Hp → Prop} (h : tG Z W (fun v S => (ev G e v S).bind fun x S => (asB x S).bind fun b S => k b v S) pEq σ H Q) :
    tT Z W G e σ H fun b H1 => ∃ F1 ρ1 v1 S1, EnvR Z F1 ρ1 v1 σ H1 ∧ StoR Z F1 ρ1 S1 H1 ∧ PostA Z W (k b v1 S1) pEq F1 ρ1 σ H1 Q := by
  refine (tG.bind (f := fun v S => (ev G e v S).bind asB) (P := pEq) (k := fun b v S => k b v S) (h.eq fun v S => by rw [R.bind_assoc])).wk fun b H1 ⟨a, F1, ρ1, v1, S1, he, hs, p, q⟩ => ?_
  obtain rfl : a = b := p
  exact ⟨F1, ρ1, v1, S1, he, hs, q⟩
theorem pw_ands {pos} : ∀ {es : Exs} {as : List Expr}, AllPT X Z W G es as → as ≠ [] → PW X (.BoolOp .And as pos) (tB2 Z W (evAnd G es))
  | .nil, [], _, h => absurd rfl h
  | .nil, _ :: _, h, _ => h.elim
  | .cons _ _, [], h, _ => h.elim
  | .cons e .nil, [a], h, _ => (pw_and1 h.1.2).imp fun σ H Q hq => (tT_bind (k := fun b v S => if b = true then evAnd G .nil v S else .ok false S) (hq.eq fun v S => by rw [evAnd])).wk fun b H1 ⟨F1, ρ1, v1, S1, he, hs, q⟩ => by
      cases b with
      | true => exact PostA.done (P := pEq) (a := true) (by simpa [evAnd] using q) hs rfl
      | false => exact PostA.done (P := pEq) (a := false) (by simpa using q) hs rfl
  | .cons e .nil, _ :: _ :: _, h, _ => h.2.elim
  | .cons e (.cons e2 es), [_], h, _ => h.2.elim
  | .cons e (.cons e2 es), a :: b :: as, h, _ => (pw_and h.1.2 (pw_ands h.2 (List.cons_ne_nil _ _))).imp fun σ H Q hq => (tT_bind (k := fun b v S => if b = true then evAnd G (.cons e2 es) v S else .ok false S) (hq.eq fun v S => by rw [evAnd])).wk fun b H1 ⟨F1, ρ1, v1, S1, he, hs, q⟩ => by
      cases b with
      | true => exact ⟨F1, ρ1, v1, S1, he, hs, by simpa using q⟩
      | false => exact PostA.done (P := pEq) (a := false) (by simpa using q) hs rfl
theorem pw_ors {pos} : ∀ {es : Exs} {as : List Expr}, AllPT X Z W G es as → as ≠ [] → PW X (.BoolOp .Or as pos) (tB2 Z W (evOr G es))
  | .nil, [], _, h => absurd rfl h
  | .nil, _ :: _, h, _ => h.elim
  | .cons _ _, [], h, _ => h.elim
  | .cons e .nil, [a], h, _ => (pw_or1 h.1.2).imp fun σ H Q hq => (tT_bind (k := fun b v S => if b = true then .ok true S else evOr G .nil v S) (hq.eq fun v S => by rw [evOr])).wk fun b H1 ⟨F1, ρ1, v1, S1, he, hs, q⟩ => by
      cases b with
      | true => exact PostA.done (P := pEq) (a := true) (by simpa using q) hs rfl
      | false => exact PostA.done (P := pEq) (a := false) (by simpa [evOr] using q) hs rfl
  | .cons e .nil, _ :: _ :: _, h, _ => h.2.elim
  | .cons e (.cons e2 es), [_], h, _ => h.2.elim
  | .cons e (.cons e2 es), a :: b :: as, h, _ => (pw_or h.1.2 (pw_ors h.2 (List.cons_ne_nil _ _))).imp fun σ H Q hq => (tT_bind (k := fun b v S => if b = true then .ok true S else evOr G (.cons e2 es) v S) (hq.eq fun v S => by rw [evOr])).wk fun b H1 ⟨F1, ρ1, v1, S1, he, hs, q⟩ => by
      cases b with
      | false => exact ⟨F1, ρ1, v1, S1, he, hs, by simpa using q⟩
      | true => exact PostA.done (P := pEq) (a := true) (by simpa using q) hs rfl
/-- as values -/
def tBv (Z : Ci) (W : WX) (f : Env → Sto → R Bool) : TE := fun σ H Q => tG Z W f pEq σ H fun b H' => Q (.bl b) H'
theorem tE_bind {e : Ex} {k : Bool → Env → Sto → R Bool} {σ : L2.St} {H : Hp} {Q : Bool → Hp → Prop} (h : tG Z W (fun v S => (ev G e v S).bind fun x S => (asB x S).bind fun b S => k b v S) pEq σ H Q) :
    tE Z W G e σ H fun x H1 => ∃ b, x = .bl b ∧ ∃ F1 ρ1 v1 S1, EnvR Z F1 ρ1 v1 σ H1 ∧ StoR Z F1 ρ1 S1 H1 ∧ PostA Z W (k b v1 S1) pEq F1 ρ1 σ H1 Q := by
  refine (tG.bind (P := pV Z) (k := fun x v S => (asB x S).bind fun b S => k b v S) h).wk fun x H1 ⟨d, F1, ρ1, v1, S1, he, hs, p, q⟩ => ?_
  rcases asB_bl (d := d) (S := S1) with ⟨r, rfl, e⟩ | e
  · rw [e] at q; cases p; exact ⟨r, rfl, F1, ρ1, v1, S1, he, hs, q⟩
  · rw [e] at q; exact q.elim
theorem pe_ands {pos} : ∀ {es : Exs} {as : List Expr}, AllPT X Z W G es as → as ≠ [] → PE X (.BoolOp .And as pos) (tBv Z W (evAnd G es))
  | .nil, [], _, h => absurd rfl h
  | .nil, _ :: _, h, _ => h.elim
  | .cons _ _, [], h, _ => h.elim
  | .cons e .nil, [a], h, _ => (pe_one h.1.1).imp fun σ H Q hq => (tE_bind (k := fun b v S => if b = true then evAnd G .nil v S else .ok false S) (tG.eq hq fun v S => by rw [evAnd])).wk fun x H1 ⟨b, ex, F1, ρ1, v1, S1, he, hs, q⟩ => by
      subst ex
      cases b with
      | true => exact PostA.done (P := pEq) (a := true) (b := true) (by simpa [evAnd] using q) hs rfl
      | false => exact PostA.done (P := pEq) (a := false) (b := false) (by simpa using q) hs rfl
  | .cons e .nil, _ :: _ :: _, h, _ => h.2.elim
  | .cons e (.cons e2 es), [_], h, _ => h.2.elim
  | .cons e (.cons e2 es), a :: b :: as, h, _ => (pe_and h.1.1 (pe_ands h.2 (List.cons_ne_nil _ _))).imp fun σ H Q hq => (tE_bind (k := fun b v S => if b = true then evAnd G (.cons e2 es) v S else .ok false S) (tG.eq hq fun v S => by rw [evAnd])).wk fun x H1 ⟨b, ex, F1, ρ1, v1, S1, he, hs, q⟩ => by
      subst ex
      refine ⟨b, rfl, ?_⟩
      cases b with
      | true => exact ⟨F1, ρ1, v1, S1, he, hs, by simpa using q⟩
      | false => exact PostA.done (P := pEq) (a := false) (b := false) (by simpa using q) hs rfl
theorem pe_ors {pos} : ∀ {es : Exs} {as : List Expr}, AllPT X Z W G es as → as ≠ [] → PE X (.BoolOp .Or as pos) (tBv Z W (evOr G es))
  | .nil, [], _, h => absurd rfl h
  | .nil, _ :: _, h, _ => h.elim
  | .cons _ _, [], h, _ => h.elim
  | .cons e .nil, [a], h, _ => (pe_one h.1.1).imp fun σ H Q hq => (tE_bind (k := fun b v S => if b = true then .ok true S else evOr G .nil v S) (tG.eq hq fun v S => by rw [evOr])).wk fun x H1 ⟨b, ex, F1, ρ1, v1, S1, he, hs, q⟩ => by
      subst ex
      cases b with
      | true => exact PostA.done (P := pEq) (a := true) (b := true) (by simpa using q) hs rfl
      | false => exact PostA.done (P := pEq) (a := false) (b := false) (by simpa [evOr] using q) hs rfl
  | .cons e .nil, _ :: _ :: _, h, _ => h.2.elim
  | .cons e (.cons e2 es), [_], h, _ => h.2.elim
  | .cons e (.cons e2 es), a :: b :: as, h, _ => (pe_or h.1.1 (pe_ors h.2 (List.cons_ne_nil _ _))).imp fun σ H Q hq => (tE_bind (k := fun b v S => if b = true then .ok true S else evOr G (.cons e2 es) v S) (tG.eq hq fun v S => by rw [evOr])).wk fun x H1 ⟨b, ex, F1, ρ1, v1, S1, he, hs, q⟩ => by
      subst ex
      refine ⟨b, rfl, ?_⟩
      cases b with
      | false => exact ⟨F1, ρ1, v1, S1, he, hs, by simpa using q⟩
      | true => exact PostA.done (P := pEq) (a := true) (b := true) (by simpa using q) hs rfl
theorem bl_val {f : Env → Sto → R Bool} {σ : L2.St} {H : Hp} {Q : VK} (h : tG Z W (fun v S => (f v S).bind fun b S => .ok (D.bl b) S) (pV Z) σ H Q) : tBv Z W f σ H Q :=
  (tG.bind (P := pEq) (k := fun b _ S => R.ok (D.bl b) S) h).wk fun b H1 ⟨a, F1, ρ1, v1, S1, he, hs, p, q⟩ => by
    obtain rfl : a = b := p
    exact PostA.done (P := pV Z) q hs .bl
theorem se_and {es : Exs} {as : List Expr} {pos} (h : AllPT X Z W G es as) (h0 : as ≠ []) : PE X (.BoolOp .And as pos) (tE Z W G (.and es)) ∧ PT X (.BoolOp .And as pos) (tT Z W G (.and es)) :=
  ⟨(pe_ands h h0).imp fun σ H Q q => bl_val (q.eq fun v S => by rw [ev]), (pw_ands h h0).pt.imp fun σ H Q q => q.eq fun v S => by
    rw [ev, R.bind_assoc]; cases evAnd G es v S <;> rfl⟩
theorem se_or {es : Exs} {as : List Expr} {pos} (h : AllPT X Z W G es as) (h0 : as ≠ []) : PE X (.BoolOp .Or as pos) (tE Z W G (.or es)) ∧ PT X (.BoolOp .Or as pos) (tT Z W G (.or es)) :=
  ⟨(pe_ors h h0).imp fun σ H Q q => bl_val (q.eq fun v S => by rw [ev]), (pw_ors h h0).pt.imp fun σ H Q q => q.eq fun v S => by
    rw [ev, R.bind_assoc]; cases evOr G es v S <;> rfl⟩
theorem se_ife {c a b : Ex} {x y z : Expr} {pos} (hc : PT X x (tT Z W G c)) (ha : PE X y (tE Z W G a)) (hb : PE X z (tE Z W G b)) : PE X (.IfExp x y z pos) (tE Z W G (.ife c a b)) := by
  refine (pe_ifExp hc ha hb).imp fun σ H Q h => ?_
  refine (tG.bind (f := fun v S => (ev G c v S).bind asB) (P := pEq) (k := fun r v S => if r = true then ev G a v S else ev G b v S) (h.eq fun v S => by rw [ev, R.bind_assoc])).wk fun r H1 ⟨r', F1, ρ1, v1, S1, he, hs, p, q⟩ => ?_
  obtain rfl : r' = r := p
  cases r' with
  | true => exact ⟨F1, ρ1, v1, S1, he, hs, by simpa using q⟩
  | false => exact ⟨F1, ρ1, v1, S1, he, hs, by simpa using q⟩
theorem se_isN {a : Ex} {x : Expr} {j pos' pos} (ha : PE X x (tE Z W G a)) : PE X (.Compare x [.Is] [.Constant .none j pos'] pos) (tE Z W G (.isN a)) := by
  refine (pe_cmp (pc_isN (j := j) (pos' := pos') ha)).imp fun σ H Q h => ?_
  refine (tG.bind (P := pV Z) (k := fun x _ S => R.ok (D.bl (match x with | .non => true | _ => false)) S) (h.eq fun v S => by rw [ev] <;> rfl)).wk fun x1 H1 ⟨d, F1, ρ1, v1, S1, he, hs, p, q⟩ => ?_
  cases p <;> exact PostA.done (P := pV Z) q hs .bl
theorem se_isNN {a : Ex} {x : Expr} {j pos' pos} (ha : PE X x (tE Z W G a)) : PE X (.Compare x [.IsNot] [.Constant .none j pos'] pos) (tE Z W G (.isNN a)) := by
  refine (pe_cmp (pc_notN (j := j) (pos' := pos') ha)).imp fun σ H Q h => ?_
  refine (tG.bind (P := pV Z) (k := fun x _ S => R.ok (D.bl (match x with | .non => false | _ => true)) S) (h.eq fun v S => by rw [ev] <;> rfl)).wk fun x1 H1 ⟨d, F1, ρ1, v1, S1, he, hs, p, q⟩ => ?_
  cases p <;> exact PostA.done (P := pV Z) q hs .bl
end
end Mi

set_option Elab.async false
set_option linter.all false
set_option maxRecDepth 100000
set_option maxHeartbeats 4000000
/-! Mi, part 8: calls whose exceptions are wished for at the caller's slots. -/
namespace Mi
open PySem PySem.Spec PyProof.Rows L2
section
variable {X : Cx} {CT : CXT} {k : Nat} {f C : Addr} {fd : FuncData} {ps : List Str} {sp : Sp} {dvs : List V} {ds : List Value} {E : L2.St → XK} {x m : Str} {p pos apos : Pos} {e o : Expr} {es : List Expr} {ta : TE} {t : TA}
theorem call0S (F : FnOk X.prog X.w X.K X.mg X.base CT k f fd ps sp) (hr : Room k X.A) (hg : Gl X x) (hm : X.mg x = some (.ref f)) (hk : PySem.W.keepIn X.K (.ref f) = true) (hb : Binds X.K fd ps ds) (hd : Vals dvs ds) (hx : ∀ σ, PassesAt CT X σ (E σ))
    (hdb : (x == ("__debug__" : Str)) = false) : PE X (.Call (.Name x p) [] [] pos) (fun σ H Q => sp dvs H Q (E σ)) :=
  ⟨fun pins s σ H Q I h => wpAny_Call_Name_kw (ld_glob I hg hm (PySem.W.callWith_K0 I.kIn hk (run_fnSD (us := []) (vs := []) F hr hb hd (hx σ) I .nil h)) hdb)⟩
/-- o.m(e, ..) -/
def tMthS (C : Addr) (m : Str) (sp : Sp) (dvs : List V) (E : L2.St → XK) (ta : TE) (t : TA) : TE := fun σ H Q => ta σ H fun x H1 => ∃ a dx fs, x = .ref a ∧ H1 a = some (.ins C dx fs) ∧ fs.lookup m = none ∧ t σ H1 fun vs H2 => sp (x :: (vs ++ dvs)) H2 Q (E σ)
theorem methS {pl : Sem Bool} (he : PE X o ta) (c : Cls X.K C) (hm : Meth X.K C m f) (F : FnOk X.prog X.w X.K X.mg X.base CT k f fd ps sp) (hr : Room k X.A) (hb : Binds X.K fd ps ds) (hd : Vals dvs ds) (hx : ∀ σ, PassesAt CT X σ (E σ)) (ha : PA X (e :: es) t)
    (hst : starEach (e :: es) X.env = (false, eval e X.env) :: starEach es X.env) (hpl : (backTo pos (starEach es X.env)).any (·.1) = false)
    (ht : eval (.Call (.Attribute o m apos) (e :: es) [] pos) X.env = (do
      let ov ← eval o X.env
      standAt apos.atName
      let (g, first) ← holding [ov] (getMethod ov m pl)
      callWith pos g first (backTo pos (starEach (e :: es) X.env)) (backToKw pos (keywordEach [] X.env)))) :
    PE X (.Call (.Attribute o m apos) (e :: es) [] pos) (tMthS C m sp dvs E ta t) := by
  refine ⟨fun pins s σ H Q I h => PySem.W.methodCall_KW (pl := pl) (thn (he.run pins s σ H _ I h) fun u s1 hh => ?_) ht⟩
  obtain ⟨y, H1, I1, rx, a, dx, fs, rfl, ea, l, q⟩ := hh
  cases rx
  refine getmeth_ok I1 ea c hm l (PySem.W.callWith_K (first := [.ref a]) (h₀ := X.base) I.ok.mod.kin hm.kp (thn (ha.run pos pins s1 σ H1 _ I1 q) fun us s2 h2 => ?_) hst hpl)
  obtain ⟨vs, H2, I2, r, q2⟩ := h2
  exact ⟨I2.kIn, run_fnSD (us := .ref a :: us) (vs := .ref a :: vs) F hr hb hd (hx σ) I2 (.cons rfl r) q2⟩
theorem methS0 {pl : Sem Bool} (he : PE X o ta) (c : Cls X.K C) (hm : Meth X.K C m f) (F : FnOk X.prog X.w X.K X.mg X.base CT k f fd ps sp) (hr : Room k X.A) (hb : Binds X.K fd ps ds) (hd : Vals dvs ds) (hx : ∀ σ, PassesAt CT X σ (E σ))
    (ht : eval (.Call (.Attribute o m apos) [] [] pos) X.env = (do
      let ov ← eval o X.env
      standAt apos.atName
      let (g, first) ← holding [ov] (getMethod ov m pl)
      callWith pos g first (backTo pos (starEach [] X.env)) (backToKw pos (keywordEach [] X.env)))) :
    PE X (.Call (.Attribute o m apos) [] [] pos) (tMthS C m sp dvs E ta tNil) := by
  refine ⟨fun pins s σ H Q I h => PySem.W.methodCall_KW (pl := pl) (thn (he.run pins s σ H _ I h) fun u s1 hh => ?_) ht⟩
  obtain ⟨y, H1, I1, rx, a, dx, fs, rfl, ea, l, q⟩ := hh
  cases rx
  exact getmeth_ok I1 ea c hm l (PySem.W.callWith_K0 (first := [.ref a]) I1.kIn hm.kp (run_fnSD (us := [.ref a]) (vs := [.ref a]) F hr hb hd (hx σ) I1 (.cons rfl .nil) q))
/-- C(e, ..) -/
def tMkS (C : Addr) (sp : Sp) (dvs : List V) (E : L2.St → XK) (t : TA) : TE := fun σ H Q => t σ H fun vs H1 => ∀ x dx, H1 x = none → H1 dx = none → dx ≠ x →
  sp (.ref x :: (vs ++ dvs)) (upd (upd H1 dx (.own x)) x (.ins C dx [])) (fun v H2 => v = .non ∧ Q (.ref x) H2) (E σ)
theorem run_mkS {pins : List (Addr × Obj)} {σ : L2.St} {H : Hp} {s : Shared} {Q : VK} {us : List Value} {vs : List V} (M : Mk X.K C f) (F : FnOk X.prog X.w X.K X.mg X.base CT k f fd ps sp) (hr : Room (k + 1) X.A) (hb : Binds X.K fd ps ds) (hd : Vals dvs ds)
    (hx : PassesAt CT X σ (E σ)) (I : Inv X pins σ H s) (r : Vals vs us)
    (h : ∀ x dx, H x = none → H dx = none → dx ≠ x → sp (.ref x :: (vs ++ dvs)) (upd (upd H dx (.own x)) x (.ins C dx [])) (fun v H2 => v = .non ∧ Q (.ref x) H2) (E σ)) :
    wpAny (model X.prog X.w) X.A (call (.ref C) us) (EP X pins σ Q) X.xe s := by
  have g := h (s.heap.objs.size + 1) s.heap.objs.size (I.hok.fresh (Nat.le_succ _)) (I.hok.fresh (Nat.le_refl _)) (Nat.ne_of_lt (Nat.lt_succ_self _))
  have J := Inv.made (C := C) I
  have rr : Vals (V.ref (s.heap.objs.size + 1) :: (vs ++ dvs)) (Value.ref (s.heap.objs.size + 1) :: (us ++ ds)) := .cons rfl (r.append hd)
  have hl : (Value.ref (s.heap.objs.size + 1) :: us ++ ds).length = ps.length := rr.length.symm.trans (F.len _ _ _ _ g)
  have run := F.run _ X.stack _ _ ⟨Value.ref (s.heap.objs.size + 1) :: us, []⟩ (Value.ref (s.heap.objs.size + 1) :: (us ++ ds)) _ _ (E σ) (hr.make C us []) (J.env0.make C us []) (hb _ (Value.ref (s.heap.objs.size + 1) :: us) J.kIn hl) rr g
  refine wpAny_call (make_map (f := f) I.kIn M.makes M.init (beq_iff_eq.mp M.fn) (codeAny_mono run fun b s' z => ?_))
  match b, z with
  | .error e, z => exact hx pins _ _ e s' J z
  | .ok (.ret u), z =>
    obtain ⟨v, H', J2, rv, ev, q⟩ := J.after z
    subst ev
    exact ⟨rv, ⟨V.ref (s.heap.objs.size + 1), H', J2, rfl, q⟩⟩
  | .ok .next, z => exact z.elim
  | .ok .brk, z => exact z.elim
  | .ok .cont, z => exact z.elim
theorem mkS (M : Mk X.K C f) (F : FnOk X.prog X.w X.K X.mg X.base CT k f fd ps sp) (hr : Room (k + 1) X.A) (hg : Gl X x) (hm : X.mg x = some (.ref C)) (hb : Binds X.K fd ps ds) (hd : Vals dvs ds) (hx : ∀ σ, PassesAt CT X σ (E σ))
    (ha : PA X (e :: es) t) (hdb : (x == ("__debug__" : Str)) = false) (he : starEach (e :: es) X.env = (false, eval e X.env) :: starEach es X.env) (hpl : (backTo pos (starEach es X.env)).any (·.1) = false) :
    PE X (.Call (.Name x p) (e :: es) [] pos) (tMkS C sp dvs E t) :=
  ⟨fun pins s σ H Q I h => wpAny_Call_Name_kw (ld_glob I hg hm (PySem.W.callWith_K (h₀ := X.base) I.ok.mod.kin M.kp (thn (ha.run pos pins s σ H _ I h) fun us s1 ⟨vs, H1, I1, r, q⟩ => ⟨I1.kIn, run_mkS M F hr hb hd (hx σ) I1 r q⟩) he hpl) hdb)⟩
theorem mkS0 (M : Mk X.K C f) (F : FnOk X.prog X.w X.K X.mg X.base CT k f fd ps sp) (hr : Room (k + 1) X.A) (hg : Gl X x) (hm : X.mg x = some (.ref C)) (hb : Binds X.K fd ps ds) (hd : Vals dvs ds) (hx : ∀ σ, PassesAt CT X σ (E σ))
    (hdb : (x == ("__debug__" : Str)) = false) : PE X (.Call (.Name x p) [] [] pos) (tMkS C sp dvs E tNil) :=
  ⟨fun pins s σ H Q I h => wpAny_Call_Name_kw (ld_glob I hg hm (PySem.W.callWith_K0 I.kIn M.kp (run_mkS (us := []) M F hr hb hd (hx σ) I .nil h)) hdb)⟩
end
end Mi

set_option Elab.async false
set_option linter.all false
set_option maxRecDepth 100000
set_option maxHeartbeats 4000000
/-! Mi, part 9: operands, places, slices, fields, calls. -/
namespace Mi
open PySem PySem.Spec PyProof.Rows L2
section
variable {Z : Ci} {W : WX} {G : Ga} {X : Cx} {α β γ δ : Type}
abbrev tL (Z : Ci) (W : WX) (G : Ga) (s : Sq) : TE := tG Z W (evl G s) (pL Z)
abbrev tK (Z : Ci) (W : WX) (G : Ga) (s : Sq) : TE := tG Z W (evk G s) (pK Z)
/-- an operand, whichever way it is read -/
def OkQ (X : Cx) (Z : Ci) (W : WX) (G : Ga) (s : Sq) (a : Expr) : Prop := PE X a (tQ Z W G s) ∧ PE X a (tL Z W G s) ∧ PE X a (tK Z W G s)
theorem sq_own {i : Nat} {x : Str} {pos : Pos} (hN : X.N[i]? = some x) (hv : Vis X.env.scope x) (hd : (x == ("__debug__" : Str)) = false) (hcd : (x == ("__classdict__" : Str)) = false) : OkQ X Z W G (.own i) (.Name x pos) := by
  have core : ∀ {α : Type} {f : Env → Sto → R α} {P : α → V → Hp → List Addr → Hp → Prop} {k : List D → α}, (∀ v S, f v S = match getN v i with | some (.ol l) => R.ok (k l) S | _ => .bad) →
      (∀ l a vs F ρ H, H a = some (.lst vs) → Reps Z F ρ l vs → P (k l) (.ref a) F ρ H) → PE X (.Name x pos) (tG Z W f P) := by
    intro α f P k e hP
    refine (pe_var (i := i) hN hv hd hcd).imp ?_
    rintro σ H Q ⟨F, ρ, v, S, he, hs, hp⟩
    rw [e] at hp
    cases q : getN v i with
    | none => rw [q] at hp; exact hp.elim
    | some s =>
      rw [q] at hp
      cases s with
      | ol l =>
        obtain ⟨o, ho, a, vs, rfl, h1, h2, r⟩ := he.get q
        exact ⟨_, ho, PostA.done hp hs (hP l a vs F ρ H h1 r)⟩
      | _ => exact hp.elim
  exact ⟨core (k := id) (fun v S => by rw [evq] <;> rfl) fun l a vs F ρ H h r => ⟨a, vs, rfl, .inl (.inl h), r⟩, core (k := id) (fun v S => by rw [evl] <;> rfl) fun l a vs F ρ H h r => ⟨a, vs, rfl, .inl h, r⟩,
    core (k := D.lst) (fun v S => by rw [evk] <;> rfl) fun l a vs F ρ H h r => .inr ⟨l, a, vs, rfl, rfl, .inl h, r⟩⟩
theorem sq_ex {e : Ex} {a : Expr} (h : PE X a (tE Z W G e)) : OkQ X Z W G (.ex e) a := by
  refine ⟨h.imp fun σ H Q q => ?_, h.imp fun σ H Q q => ?_, h.imp fun σ H Q q => ?_⟩
  · refine tG.map (P := pV Z) (k := fun x S => match x with | .lst l => R.ok l S | .tup l => .ok l S | _ => .bad) (q.eq fun v S => by rw [evq] <;> rfl) fun d b F ρ H S hs p => ?_
    cases p with
    | lst h1 r => exact .inl ⟨_, rfl, _, _, rfl, .inl (rdM hs.le h1), r⟩
    | tup h1 r => exact .inl ⟨_, rfl, _, _, rfl, .inr h1, r⟩
    | _ => exact .inr rfl
  · refine tG.map (P := pV Z) (k := fun x S => match x with | .lst l => R.ok l S | _ => .bad) (q.eq fun v S => by rw [evl] <;> rfl) fun d b F ρ H S hs p => ?_
    cases p with
    | lst h1 r => exact .inl ⟨_, rfl, _, _, rfl, rdM hs.le h1, r⟩
    | _ => exact .inr rfl
  · obtain ⟨F, ρ, v, S, he, hs, hp⟩ := q
    exact ⟨F, ρ, v, S, he, hs, PostA.mono (P := pK Z) (by rw [evk] at hp; exact hp) fun a b F' ρ' H' _ p k => k b (.inl p)⟩
/-- one argument -/
theorem pa_one {a : Expr} {t : TE} (h : PE X a t) (hs : starEach [a] X.env = [(false, eval a X.env)]) : PA X [a] (fun σ H Q => t σ H fun x H1 => Q [x] H1) := pa_cons h pa_nil (by rw [hs]; rfl)
theorem pa_two {a b : Expr} {t u : TE} (h : PE X a t) (h' : PE X b u) (hs : starEach [a, b] X.env = (false, eval a X.env) :: starEach [b] X.env) (hs' : starEach [b] X.env = [(false, eval b X.env)]) :
    PA X [a, b] (fun σ H Q => t σ H fun x H1 => u σ H1 fun y H2 => Q [x, y] H2) := pa_cons h (pa_one h' hs') hs

/-! ### places -/
theorem se_idx {s : Sq} {i : Ex} {a b : Expr} {pos} (hK : X.K = Z.K) (ha : OkQ X Z W G s a) (hb : PE X b (tE Z W G i)) (hp : PlainIx b) : PE X (.Subscript a b pos) (tE Z W G (.idx s i)) := by
  refine (pe_ix (ix_list.or ix_tup) ha.1 hb hp).imp fun σ H Q h => ?_
  have h' := tG.bind2 (f := evq G s) (g := ev G i) (k := fun l k _ S => match k with | .int j => (match atI l j with | some d => R.ok d S | none => .bad) | _ => .bad) (P := pQ Z) (P' := pV Z)
    (fun a b F ρ H F1 ρ1 H1 S e s p => pQ.ext e s p) (h.eq fun v S => by rw [ev] <;> rfl)
  refine h'.wk fun x1 H1 h1 => tG.wk h1 fun y1 H2 ⟨l, d, F2, ρ2, v2, S2, he, hs, p1, p2, q⟩ => ?_
  cases p2 with
  | @int j =>
    cases e : atI l j with
    | none => simp only [e] at q; exact q.elim
    | some d =>
      simp only [e] at q
      obtain ⟨c, vs, rfl, hq, r⟩ := p1
      have hat : ∃ w, L2.atI vs j = some w ∧ Rep Z F2 ρ2 d w := by
        unfold atI at e
        unfold L2.atI
        rw [← r.len]
        cases e2 : ixN l.length j with
        | none => rw [e2] at e; cases e
        | some n =>
          rw [e2] at e
          obtain ⟨w, hw, rw'⟩ := r.get (n := n) (d := d) e
          exact ⟨w, by rw [show L2.ixN l.length j = some n from e2]; exact hw, rw'⟩
      obtain ⟨w, hw, rw'⟩ := hat
      rcases hq with hq | hq
      · exact .inl ⟨c, vs, j, w, rfl, rfl, .inl hq, hw, PostA.done q hs rw'⟩
      · exact .inr ⟨c, vs, j, w, rfl, rfl, by rw [hK]; exact seqT hs.le hq, hw, PostA.done q hs rw'⟩
  | _ => exact q.elim
/-- a slice's part -/
def OkO (X : Cx) (Z : Ci) (W : WX) (G : Ga) : Exo → Option Expr → Prop
  | .no, none => True
  | .yes e, some a => PE X a (tE Z W G e)
  | _, _ => False
theorem po_of {o : Exo} {a : Option Expr} (h : OkO X Z W G o a) : PO X a (tG Z W (evo G o) pEq) := by
  cases o with
  | no =>
    cases a with
    | none => exact ⟨fun pins s σ H Q I ⟨F, ρ, v, S, he, hs, hp⟩ => po_none.run pins s σ H Q I (PostA.done (P := pEq) (W := W) (σ := σ) (by rw [evo] at hp; exact hp) hs rfl)⟩
    | some a => exact h.elim
  | yes e =>
    cases a with
    | none => exact h.elim
    | some a =>
      refine ⟨fun pins s σ H Q I q => (po_some h).run pins s σ H Q I ?_⟩
      refine (tG.bind (P := pV Z) (k := fun x _ S => match x with | .int i => R.ok (some i) S | _ => .bad) (q.eq fun v S => by rw [evo] <;> rfl)).wk fun x H1 ⟨d, F1, ρ1, v1, S1, he, hs, p, q⟩ => ?_
      cases p with
      | int => exact ⟨_, rfl, PostA.done (P := pEq) q hs rfl⟩
      | _ => exact q.elim
theorem Reps.cutR {F : Hp} {ρ : List Addr} {l : List D} {vs : List V} (h : Reps Z F ρ l vs) (a b : Option Int) : Reps Z F ρ (cut l a b) (cutV vs a b) := by
  have e : ∀ (n d : Nat) (o : Option Int), clip n d o = HT.sIx n d o := fun n d o => by cases o <;> rfl
  unfold cut cutV
  rw [← h.len, e, e]
  exact (h.drop _).take _
theorem fin_lst' {F : Hp} {ρ : List Addr} {S : Sto} {H : Hp} {l : List D} {vs : List V} {Q : VK} {p : Addr} {σ : L2.St} (hs : StoR Z F ρ S H) (hp : H p = none) (r : Reps Z F ρ l vs) (q : PostA Z W (.ok (.lst l) S) (pV Z) F ρ σ H Q) : Q (.ref p) (upd H p (.lst vs)) := by
  have e : Ext nO F ρ H (upd F p (.lst vs)) ρ (upd H p (.lst vs)) := Ext.laid hp hs.le
  exact q _ _ _ _ e (hs.laid hp) (.lst (.inl upd_same) (e.reps r))
theorem fin_tup' {F : Hp} {ρ : List Addr} {S : Sto} {H : Hp} {l : List D} {vs : List V} {Q : VK} {p : Addr} {σ : L2.St} (hs : StoR Z F ρ S H) (hp : H p = none) (r : Reps Z F ρ l vs) (q : PostA Z W (.ok (.tup l) S) (pV Z) F ρ σ H Q) : Q (.ref p) (upd H p (.tup vs)) := by
  have e : Ext nO F ρ H (upd F p (.tup vs)) ρ (upd H p (.tup vs)) := Ext.laid hp hs.le
  exact q _ _ _ _ e (hs.laid hp) (.tup (.inl (.inl upd_same)) (e.reps r))
theorem se_slc {s : Sq} {lo hi : Exo} {a : Expr} {l h : Option Expr} {p2 pos} (hK : X.K = Z.K) (ha : OkQ X Z W G s a) (hl : OkO X Z W G lo l) (hh : OkO X Z W G hi h) : PE X (.Subscript a (.Slice l h none p2) pos) (tE Z W G (.slc s lo hi)) := by
  refine (pe_slice (sl_list.or sl_tupA) ha.2.2 (po_of hl) (po_of hh)).imp fun σ H Q h => ?_
  have h0 : tG Z W (fun v S => (evk G s v S).bind fun t S => (evo G lo v S).bind fun a S => (evo G hi v S).bind fun b S => match t with | .lst l => R.ok (D.lst (cut l a b)) S | .tup l => .ok (D.tup (cut l a b)) S | _ => .bad) (pV Z) σ H Q := h.eq fun v S => by rw [ev] <;> rfl
  refine (tG.bind2 (f := evk G s) (g := evo G lo) (k := fun t a v S => (evo G hi v S).bind fun b S => match t with | .lst l => R.ok (D.lst (cut l a b)) S | .tup l => .ok (D.tup (cut l a b)) S | _ => .bad) (P := pK Z) (P' := pEq)
    (fun a b F ρ H F1 ρ1 H1 S e s p => pK.ext e s p) h0).wk fun x1 H1 h1 => tG.wk h1 fun y1 H2 ⟨t, a', F2, ρ2, v2, S2, he, hs, p1, p2, q⟩ => ?_
  obtain rfl : a' = y1 := p2
  refine ⟨F2, ρ2, v2, S2, he, hs, (PostA.bind (P := pEq) q).mono fun b b1 F3 ρ3 H3 e3 p3 k3 => ?_⟩
  obtain ⟨b2, F4, ρ4, S4, e4, s4, p4, q4⟩ := k3 b1 p3
  obtain rfl : b2 = b1 := p4
  have p1' := pK.ext e4 hs p1
  rcases p1' with r | ⟨l, c, vs, rfl, rfl, hr, r⟩
  · cases r with
    | lst g1 r => exact .inl ⟨_, _, rfl, .inl (rdM s4.le g1), fun p hp => fin_lst' (W := W) s4 hp (r.cutR a' b2) q4⟩
    | tup g1 r =>
      refine .inr ⟨_, _, rfl, by rw [hK]; exact seqT s4.le g1, fun hw => ?_, fun hw p hp => fin_tup' (W := W) s4 hp (r.cutR a' b2) q4⟩
      have ec : ∀ {α : Type} (m : List α), m.length = (_ : List V).length → cut m a' b2 = m := fun m hm => by
        have e : ∀ (n d : Nat) (o : Option Int), clip n d o = HT.sIx n d o := fun n d o => by cases o <;> rfl
        unfold cut
        rw [e, e, hm, hw.1, hw.2, List.drop_zero, Nat.sub_zero, ← hm, List.take_length]
      have q5 : PostA Z W (R.ok (D.tup (cut _ a' b2)) S4) (pV Z) F4 ρ4 σ H3 Q := q4
      rw [ec _ r.len] at q5
      exact PostA.done q5 s4 (.tup g1 r)
    | _ => exact q4.elim
  · exact .inl ⟨c, vs, rfl, .inl hr, fun p hp => fin_lst' (W := W) s4 hp (r.cutR a' b2) q4⟩

/-! ### fields -/
/-- what is known of a class: its fields' names -/
structure ClsF (X : Cx) (Z : Ci) (nm : Nat → Str) (na : Nat) (c : Nat) (k : Cl) : Prop where
  names : Z.cn c = k.at_.map nm
  inj : ∀ f g, f < na → g ∈ k.at_ → nm g = nm f → g = f
  cls : Cls X.K (Z.ca c)
  no : ∀ f ∈ k.at_, NoAttr X.K (Z.ca c) (nm f)
  nd : k.at_.Nodup
  lt : ∀ f ∈ k.at_, f < na
theorem lookF_some {nm : Nat → Str} {F : Hp} {ρ : List Addr} {f : Nat} : ∀ {at_ : List Nat} {fs : List D} {vs : List V} {d : D}, (∀ g ∈ at_, nm g = nm f → g = f) → Reps Z F ρ fs vs → lookF f at_ fs = some d →
    f ∈ at_ ∧ ∃ v, ((at_.map nm).zip vs).lookup (nm f) = some v ∧ Rep Z F ρ d v
  | [], _, _, _, _, _, h => by simp [lookF] at h
  | g :: at_, [], _, _, _, _, h => by simp [lookF] at h
  | g :: at_, d' :: fs, vs, d, hi, r, h => by
    cases r with
    | cons r1 r2 =>
      rename_i v' vs'
      unfold lookF at h
      by_cases e : g = f
      · rw [if_pos e] at h; cases h
        subst e
        refine ⟨by simp, v', ?_, r1⟩
        show List.lookup (nm g) ((nm g, v') :: (at_.map nm).zip vs') = some v'
        simp [List.lookup]
      · rw [if_neg e] at h
        obtain ⟨h1, v, h2, h3⟩ := lookF_some (fun g hg => hi g (by simp [hg])) r2 h
        refine ⟨by simp [h1], v, ?_, h3⟩
        show List.lookup (nm f) ((nm g, v') :: (at_.map nm).zip vs') = some v
        have ne : (nm f == nm g) = false := beq_eq_false_iff_ne.mpr fun z => e (hi g (by simp) z.symm)
        simp only [List.lookup, ne]
        exact h2
theorem se_fld {nm : Nat → Str} {na : Nat} {a : Ex} {f : Nat} {x : Expr} {y : Str} {pos} (hc : ∀ c k, G.cls c = some k → ClsF X Z nm na c k) (hf : f < na) (hy : nm f = y) (ha : PE X x (tE Z W G a)) (hb : attributeBase x y X.env (eval x X.env) = eval x X.env) :
    PE X (.Attribute x y pos) (tE Z W G (.fld a f)) := by
  subst hy
  refine (pe_fld ha hb).imp fun σ H Q h => ?_
  refine (tG.bind (P := pV Z) (k := fun x _ S => match x with | .ins c fs => (match (G.cls c).bind fun k => lookF f k.at_ fs with | some d => R.ok d S | none => .bad) | _ => .bad) (h.eq fun v S => by rw [ev] <;> rfl)).wk fun x1 H1 ⟨d, F1, ρ1, v1, S1, he, hs, p, q⟩ => ?_
  cases p with
  | @ins a dx c vs fs h1 hl r =>
    cases e : G.cls c with
    | none => simp only [e, Option.bind_none] at q; exact q.elim
    | some k =>
      simp only [e, Option.bind_some] at q
      have K := hc c k e
      cases e2 : lookF f k.at_ fs with
      | none => rw [e2] at q; exact q.elim
      | some d =>
        rw [e2] at q
        obtain ⟨m1, w, m2, m3⟩ := lookF_some (nm := nm) (fun g hg => K.inj f g hf hg) r e2
        exact ⟨a, Z.ca c, dx, _, w, rfl, hs.le _ _ h1, K.cls, K.no f m1, by rw [K.names]; exact m2, PostA.done q hs m3⟩
  | _ => exact q.elim
/-- a field of the object that __init__ fills -/
theorem se_sfl {nm : Nat → Str} {na : Nat} {i f : Nat} {x y : Str} {p pos} (hc : ∀ c k, G.cls c = some k → ClsF X Z nm na c k) (hf : f < na) (hy : nm f = y) (hN : X.N[i]? = some x) (hv : Vis X.env.scope x) (hd : (x == ("__debug__" : Str)) = false) (hcd : (x == ("__classdict__" : Str)) = false)
    (hb : attributeBase (.Name x p) y X.env (eval (.Name x p) X.env) = eval (.Name x p) X.env) : PE X (.Attribute (.Name x p) y pos) (tE Z W G (.sfl i f)) := by
  subst hy
  refine (pe_fld (pe_var (i := i) hN hv hd hcd) hb).imp ?_
  rintro σ H Q ⟨F, ρ, v, S, he, hs, hp⟩
  rw [ev] at hp
  cases q : getN v i with
  | none => rw [q] at hp; exact hp.elim
  | some s =>
    rw [q] at hp
    cases s with
    | sf c fs =>
      obtain ⟨o, ho, a, dx, vs, rfl, h1, hl, h2, r⟩ := he.get q
      cases e : G.cls c with
      | none => simp only [e, Option.bind_none] at hp; exact hp.elim
      | some k =>
        simp only [e, Option.bind_some] at hp
        have K := hc c k e
        cases e2 : lookF f k.at_ fs with
        | none => rw [e2] at hp; exact hp.elim
        | some d =>
          rw [e2] at hp
          obtain ⟨m1, w, m2, m3⟩ := lookF_some (nm := nm) (fun g hg => K.inj f g hf hg) r e2
          exact ⟨_, ho, a, Z.ca c, dx, _, w, rfl, h1, K.cls, K.no f m1, by rw [K.names]; exact m2, PostA.done hp hs m3⟩
    | _ => exact hp.elim

/-! ### calls -/
/-- a def's promise, by the interpreter -/
def spF (Z : Ci) (call : List D → Sto → R D) (np : Nat) : Sp := fun vs H Q E => vs.length = np ∧ ∃ F ρ S ds, StoR Z F ρ S H ∧ Reps Z F ρ ds vs ∧ PostA Z (fun cls dx _ H' => E cls dx H') (call ds S) (pV Z) F ρ [] H Q
/-- a def that can be called with k arguments: the defaults dd fill up -/
structure CalF (X : Cx) (Z : Ci) (call : List D → Sto → R D) (a : Addr) (k : Nat) : Prop where
  ok : ∃ (fd : FuncData) (ps : List Str) (dvs : List V) (ds : List Value) (dd : List D) (n : Nat), FnOk X.prog X.w X.K X.mg X.base (L2.CX X.prog X.w) n a fd ps (spF Z call ps.length) ∧ Room n X.A ∧ Binds X.K fd ps ds ∧ Vals dvs ds ∧ k + dvs.length = ps.length ∧
    (∀ F ρ, Reps Z F ρ dd dvs) ∧ ∀ l S, l.length = k → call l S = call (l ++ dd) S
theorem PostA.slots {r : R α} {P : α → β → Hp → List Addr → Hp → Prop} {F : Hp} {ρ : List Addr} {σ : L2.St} {H : Hp} {Q : β → Hp → Prop} (h : PostA Z W r P F ρ σ H Q) : PostA Z (fun cls dx _ H' => W cls dx σ H') r P F ρ [] H Q := by
  cases r <;> exact h
def exN : Exs → Nat
  | .nil => 0
  | .cons _ es => exN es + 1
theorem evs_len : ∀ {es : Exs} {v : Env} {S S' : Sto} {l : List D}, evs G es v S = .ok l S' → l.length = exN es
  | .nil, v, S, S', l, h => by rw [evs] at h; cases h; rfl
  | .cons e es, v, S, S', l, h => by
    rw [evs] at h
    cases q : ev G e v S with
    | ok x S1 =>
      rw [q] at h
      have h : (evs G es v S1).bind (fun l S => R.ok (x :: l) S) = .ok l S' := h
      cases q2 : evs G es v S1 with
      | ok m S2 => rw [q2] at h; cases h; simp [exN, evs_len q2]
      | ex c fs S2 => rw [q2] at h; cases h
      | bad => rw [q2] at h; cases h
    | ex c fs S1 => rw [q] at h; cases h
    | bad => rw [q] at h; cases h
theorem Reps.lenV {F : Hp} {ρ : List Addr} {l : List D} {vs : List V} (h : Reps Z F ρ l vs) : vs.length = l.length := h.len.symm
/-- the arguments' length is known -/
theorem tEs_len {es : Exs} {as : List Expr} (hl : PA X as (tEs Z W G es)) : PA X as (fun σ H Q => tEs Z W G es σ H fun vs H1 => vs.length = exN es → Q vs H1) := by
  refine hl.imp fun σ H Q ⟨F, ρ, v, S, he, hs, hp⟩ => ⟨F, ρ, v, S, he, hs, ?_⟩
  cases q : evs G es v S with
  | ok l S1 =>
    rw [q] at hp
    intro b F' ρ' H' e s p
    exact hp b F' ρ' H' e s p (by rw [p.lenV, evs_len q])
  | ex c fs S1 => rw [q] at hp; exact hp
  | bad => rw [q] at hp; exact hp
theorem se_call {f : Nat} {es : Exs} {x : Str} {as : List Expr} {a : Addr} {p pos} (C : CalF X Z (G.call f) a (exN es)) (tk : Takes X W) (hg : Gl X x) (hm : X.mg x = some (.ref a)) (hk : PySem.W.keepIn X.K (.ref a) = true) (hdb : (x == ("__debug__" : Str)) = false)
    (ha : PA X as (tEs Z W G es)) (he : ∀ b bs, as = b :: bs → starEach as X.env = (false, eval b X.env) :: starEach bs X.env ∧ (backTo pos (starEach bs X.env)).any (·.1) = false) (hn : as = [] → es = .nil) : PE X (.Call (.Name x p) as [] pos) (tE Z W G (.call f es)) := by
  obtain ⟨fd, ps, dvs, ds, dd, n, F, hr, hb, hd, hlen, hdd, hfill⟩ := C.ok
  have fin : ∀ {σ : L2.St} {H1 : Hp} {Q : VK} {vs : List V} {l : List D} {F1 ρ1 S1}, vs.length = exN es → StoR Z F1 ρ1 S1 H1 → Reps Z F1 ρ1 l vs → PostA Z W (G.call f l S1) (pV Z) F1 ρ1 σ H1 Q → spF Z (G.call f) ps.length (vs ++ dvs) H1 Q (WE W σ) := by
    intro σ H1 Q vs l F1 ρ1 S1 hl hs r q
    refine ⟨by rw [List.length_append, hl]; exact hlen, F1, ρ1, S1, l ++ dd, hs, r.app (hdd F1 ρ1), ?_⟩
    rw [← hfill l S1 (by rw [r.len]; exact hl)]
    exact q.slots
  cases as with
  | nil =>
    obtain rfl := hn rfl
    refine (call0S F hr hg hm hk hb hd (fun σ => passAt tk σ) hdb).imp fun σ H Q h => ?_
    obtain ⟨F1, ρ1, v, S, he1, hs, hp⟩ := h
    rw [ev, evs] at hp
    exact fin (vs := []) (l := []) rfl hs .nil hp
  | cons b bs =>
    obtain ⟨h1, h2⟩ := he b bs rfl
    refine (pe_callSD F hr hg hm hk hb hd (fun σ => passAt tk σ) (tEs_len ha) hdb h1 h2).imp fun σ H Q h => ?_
    refine (tG.args (k := fun l _ S => G.call f l S) (h.eq fun v S => by rw [ev])).wk fun vs H1 ⟨l, F1, ρ1, v1, S1, he1, hs, r, q⟩ hl => fin hl hs r q
end
end Mi

set_option Elab.async false
set_option linter.all false
set_option maxRecDepth 100000
set_option maxHeartbeats 4000000
/-! Mi, part 10: built-ins, new objects, methods, dicts of the store. -/
namespace Mi
open PySem PySem.Spec PyProof.Rows L2
section
variable {Z : Ci} {W : WX} {G : Ga} {X : Cx} {α β γ δ : Type}

/-! ### built-ins over an operand -/
theorem pL_items {l : List D} {x : V} {F : Hp} {ρ : List Addr} {H : Hp} (h : pL Z l x F ρ H) : ∃ a vs, x = .ref a ∧ (SqL X.K H a vs) ∧ Reps Z F ρ l vs := by
  obtain ⟨a, vs, rfl, h, r⟩ := h
  exact ⟨a, vs, rfl, .inl h, r⟩
theorem se_len {s : Sq} {a : Expr} {p pos} (hK : X.K = Z.K) (hg : Gl X "len") (hm : X.mg "len" = none) (ha : OkQ X Z W G s a) (h1 : starEach [a] X.env = [(false, eval a X.env)]) : PE X (.Call (.Name "len" p) [a] [] pos) (tE Z W G (.len s)) := by
  refine (pe_callB call_len_seq hg hm boot_len (pa_one ha.1 h1) (he := by rw [h1]; rfl)).imp fun σ H Q h => ?_
  refine (tG.bind (P := pQ Z) (k := fun l _ S => R.ok (D.int l.length) S) (h.eq fun v S => by rw [ev])).wk fun x H1 ⟨l, F1, ρ1, v1, S1, he, hs, ⟨c, vs, ex, hq, r⟩, q⟩ => ?_
  subst ex
  rw [r.len] at q
  refine ⟨c, vs, rfl, ?_, PostA.done (P := pV Z) q hs .int⟩
  rcases hq with hq | hq
  · exact .inl (.inl hq)
  · exact .inr (by rw [hK]; exact seqT hs.le hq)
theorem sf_listOf {s : Sq} {a : Expr} {p pos} (hK : X.K = Z.K) (hg : Gl X "list") (hm : X.mg "list" = none) (ha : OkQ X Z W G s a) (h1 : starEach [a] X.env = [(false, eval a X.env)]) : PE X (.Call (.Name "list" p) [a] [] pos) (tF Z W (ev G (.listOf s))) := by
  refine (pe_callTy call_list_of hg hm (by decide +kernel) (pa_one ha.1 h1) (he := by rw [h1]; rfl)).imp fun σ H Q h => ?_
  obtain ⟨F, ρ, v, S, he, hs, hp⟩ := h
  have h' : tG Z W (fun v S => (evq G s v S).bind fun l S => R.ok (D.lst l) S) (pF Z H) σ H Q := ⟨F, ρ, v, S, he, hs, by rw [ev] at hp; exact hp⟩
  obtain ⟨F, ρ, v, S, he, hs, hp⟩ := tG.bind (P := pQ Z) (k := fun l _ S => R.ok (D.lst l) S) h'
  refine ⟨F, ρ, v, S, he, hs, hp.mono fun l x F' ρ' H' e p k => ?_⟩
  obtain ⟨l, F1, ρ1, v1, S1, he1, hs1, ⟨c, vs, ex, hq, r⟩, q⟩ := k x p
  subst ex
  refine ⟨c, vs, rfl, ?_, fun p hp => new_list hs1 hp (e.dom p) r q⟩
  rcases hq with hq | hq
  · exact .inl (.inl hq)
  · exact .inr (by rw [hK]; exact seqT hs1.le hq)
theorem se_tupOf {s : Sq} {a : Expr} {p pos} (hK : X.K = Z.K) (hg : Gl X "tuple") (hm : X.mg "tuple" = none) (ha : OkQ X Z W G s a) (h1 : starEach [a] X.env = [(false, eval a X.env)]) : PE X (.Call (.Name "tuple" p) [a] [] pos) (tE Z W G (.tupOf s)) := by
  refine (pe_callTy call_tuple_of hg hm (by decide +kernel) (pa_one ha.1 h1) (he := by rw [h1]; rfl)).imp fun σ H Q h => ?_
  refine (tG.bind (P := pQ Z) (k := fun l _ S => R.ok (D.tup l) S) (h.eq fun v S => by rw [ev])).wk fun x H1 ⟨l, F1, ρ1, v1, S1, he, hs, ⟨c, vs, ex, hq, r⟩, q⟩ => ?_
  subst ex
  refine ⟨c, vs, rfl, ?_⟩
  rcases hq with hq | hq
  · exact .inl ⟨.inl hq, fun p hp => fin_tup' (W := W) hs hp r q⟩
  · exact .inr ⟨by rw [hK]; exact seqT hs.le hq, PostA.done (P := pV Z) q hs (.tup hq r)⟩
theorem ints_reps : ∀ {l : List D} {ns : List Int} {vs : List V} {F : Hp} {ρ : List Addr}, toInts l = some ns → Reps Z F ρ l vs → vs = ns.map V.int ∧ l = ns.map D.int
  | [], ns, vs, F, ρ, h, r => by cases h; cases r; exact ⟨rfl, rfl⟩
  | d :: l, ns, vs, F, ρ, h, r => by
    cases d <;> simp only [toInts] at h <;> first | (cases h; done) | skip
    rename_i i
    cases e : toInts l with
    | none => rw [e] at h; cases h
    | some m =>
      rw [e] at h; cases h
      cases r with
      | cons r1 r2 =>
        obtain ⟨e1, e2⟩ := ints_reps e r2
        cases r1
        exact ⟨by rw [e1]; rfl, by rw [e2]; rfl⟩
theorem reps_ints {F : Hp} {ρ : List Addr} : ∀ ns : List Int, Reps Z F ρ (ns.map D.int) (ns.map V.int)
  | [] => .nil
  | _ :: ns => .cons .int (reps_ints ns)
theorem insI_perm (x : Int) : ∀ l : List Int, (insI x l).Perm (x :: l)
  | [] => .refl _
  | y :: l => by
    unfold insI
    split
    · exact .refl _
    · exact ((insI_perm x l).cons y).trans (.swap x y l)
theorem sortI_perm : ∀ l : List Int, (sortI l).Perm l
  | [] => .refl _
  | x :: l => (insI_perm x (sortI l)).trans ((sortI_perm l).cons x)
theorem insI_sorted (x : Int) : ∀ {l : List Int}, l.Pairwise (· ≤ ·) → (insI x l).Pairwise (· ≤ ·)
  | [], _ => by simp [insI]
  | y :: l, h => by
    unfold insI
    have h1 := List.pairwise_cons.mp h
    split
    · rename_i z
      exact List.pairwise_cons.mpr ⟨fun b hb => (List.mem_cons.mp hb).elim (fun e => by omega) (fun e => by have := h1.1 b e; omega), h⟩
    · rename_i z
      refine List.pairwise_cons.mpr ⟨fun b hb => ?_, insI_sorted x h1.2⟩
      rcases List.mem_cons.mp ((insI_perm x l).mem_iff.mp hb) with e | e
      · omega
      · exact h1.1 b e
theorem sortI_sorted : ∀ l : List Int, (sortI l).Pairwise (· ≤ ·)
  | [] => .nil
  | x :: l => insI_sorted x (sortI_sorted l)
theorem sorted_one : ∀ {l m : List Int}, l.Perm m → l.Pairwise (· ≤ ·) → m.Pairwise (· ≤ ·) → l = m
  | [], m, p, _, _ => (List.nil_perm.mp p).symm
  | x :: l, [], p, _, _ => absurd p.length_eq (by simp)
  | x :: l, y :: m, p, h, k => by
    have h1 := List.pairwise_cons.mp h
    have k1 := List.pairwise_cons.mp k
    have exy : x = y := by
      have a : x ≤ y := by
        rcases List.mem_cons.mp (p.mem_iff.mpr (List.mem_cons_self (a := y) (l := m))) with e | e
        · omega
        · exact h1.1 y e
      have b : y ≤ x := by
        rcases List.mem_cons.mp (p.mem_iff.mp (List.mem_cons_self (a := x) (l := l))) with e | e
        · omega
        · exact k1.1 x e
      omega
    subst exy
    rw [sorted_one (List.perm_cons x |>.mp p) h1.2 k1.2]
theorem sf_sorted {s : Sq} {a : Expr} {p pos} (hg : Gl X "sorted") (hm : X.mg "sorted" = none) (ha : OkQ X Z W G s a) (h1 : starEach [a] X.env = [(false, eval a X.env)]) : PE X (.Call (.Name "sorted" p) [a] [] pos) (tF Z W (ev G (.sorted s))) := by
  refine (pe_callB cr_sortedI hg hm (by decide +kernel) (pa_one ha.2.1 h1) (he := by rw [h1]; rfl)).imp fun σ H Q h => ?_
  obtain ⟨F, ρ, v, S, he, hs, hp⟩ := h
  have h' : tG Z W (fun v S => (evl G s v S).bind fun l S => match toInts l with | some ns => R.ok (D.lst ((sortI ns).map .int)) S | none => .bad) (pF Z H) σ H Q := ⟨F, ρ, v, S, he, hs, by rw [ev] at hp; exact hp⟩
  obtain ⟨F, ρ, v, S, he, hs, hp⟩ := tG.bind (P := pL Z) (k := fun l _ S => match toInts l with | some ns => R.ok (D.lst ((sortI ns).map .int)) S | none => .bad) h'
  refine ⟨F, ρ, v, S, he, hs, hp.mono fun l x F' ρ' H' e p k => ?_⟩
  obtain ⟨l, F1, ρ1, v1, S1, he1, hs1, ⟨c, vs, ex, hq, r⟩, q⟩ := k x p
  subst ex
  cases e2 : toInts l with
  | none => rw [e2] at q; exact q.elim
  | some ns =>
    rw [e2] at q
    obtain ⟨e3, e4⟩ := ints_reps e2 r
    subst e3
    refine ⟨c, ns, rfl, .inl hq, fun ns' p hp hs' hn => ?_⟩
    obtain rfl : ns' = sortI ns := sorted_one (hp.trans (sortI_perm ns).symm) hs' (sortI_sorted ns)
    exact new_list hs1 hn (e.dom p) (reps_ints _) q
theorem se_max2 {a b : Ex} {x y : Expr} {p pos} (hc : X.calm = true) (hg : Gl X "max") (hm : X.mg "max" = none) (ha : PE X x (tE Z W G a)) (hb : PE X y (tE Z W G b)) (h2 : starEach [x, y] X.env = (false, eval x X.env) :: starEach [y] X.env) (h1 : starEach [y] X.env = [(false, eval y X.env)]) :
    PE X (.Call (.Name "max" p) [x, y] [] pos) (tE Z W G (.max2 a b)) := by
  refine (pe_callB (call_max2 hc) hg hm (by decide +kernel) (pa_two ha hb h2 h1) (he := h2) (hpl := by rw [h1]; rfl)).imp fun σ H Q h => ?_
  refine (tG.bind2 (f := ev G a) (g := ev G b) (k := fun x y _ S => match x, y with | .int i, .int j => R.ok (D.int (if j > i then j else i)) S | _, _ => .bad) (P := pV Z) (P' := pV Z) (fun a b F ρ H F1 ρ1 H1 S e s p => pV.ext e s p) (h.eq fun v S => by rw [ev] <;> rfl)).wk
    fun x1 H1 h1 => tG.wk h1 fun y1 H2 ⟨d, d', F2, ρ2, v2, S2, he, hs, p1, p2, q⟩ => ?_
  cases p1 <;> first | (exact q.elim) | skip
  cases p2 <;> first | (exact q.elim) | skip
  exact ⟨_, _, rfl, PostA.done (P := pV Z) q hs .int⟩
theorem se_min2 {a b : Ex} {x y : Expr} {p pos} (hc : X.calm = true) (hg : Gl X "min") (hm : X.mg "min" = none) (ha : PE X x (tE Z W G a)) (hb : PE X y (tE Z W G b)) (h2 : starEach [x, y] X.env = (false, eval x X.env) :: starEach [y] X.env) (h1 : starEach [y] X.env = [(false, eval y X.env)]) :
    PE X (.Call (.Name "min" p) [x, y] [] pos) (tE Z W G (.min2 a b)) := by
  refine (pe_callB (call_min2 hc) hg hm (by decide +kernel) (pa_two ha hb h2 h1) (he := h2) (hpl := by rw [h1]; rfl)).imp fun σ H Q h => ?_
  refine (tG.bind2 (f := ev G a) (g := ev G b) (k := fun x y _ S => match x, y with | .int i, .int j => R.ok (D.int (if j < i then j else i)) S | _, _ => .bad) (P := pV Z) (P' := pV Z) (fun a b F ρ H F1 ρ1 H1 S e s p => pV.ext e s p) (h.eq fun v S => by rw [ev] <;> rfl)).wk
    fun x1 H1 h1 => tG.wk h1 fun y1 H2 ⟨d, d', F2, ρ2, v2, S2, he, hs, p1, p2, q⟩ => ?_
  cases p1 <;> first | (exact q.elim) | skip
  cases p2 <;> first | (exact q.elim) | skip
  exact ⟨_, _, rfl, PostA.done (P := pV Z) q hs .int⟩
theorem se_gcd {a b : Ex} {x y : Expr} {p pos} (hg : Gl X "gcd") (hm : X.mg "gcd" = some (.builtin "math.gcd")) (ha : PE X x (tE Z W G a)) (hb : PE X y (tE Z W G b)) (h2 : starEach [x, y] X.env = (false, eval x X.env) :: starEach [y] X.env) (h1 : starEach [y] X.env = [(false, eval y X.env)]) :
    PE X (.Call (.Name "gcd" p) [x, y] [] pos) (tE Z W G (.gcd a b)) := by
  refine (pe_callBfun cr_gcd hg hm (pa_two ha hb h2 h1) (he := h2) (hpl := by rw [h1]; rfl)).imp fun σ H Q h => ?_
  refine (tG.bind2 (f := ev G a) (g := ev G b) (k := fun x y _ S => match x, y with | .int i, .int j => R.ok (D.int ((Nat.gcd i.natAbs j.natAbs : Nat) : Int)) S | _, _ => .bad) (P := pV Z) (P' := pV Z) (fun a b F ρ H F1 ρ1 H1 S e s p => pV.ext e s p) (h.eq fun v S => by rw [ev] <;> rfl)).wk
    fun x1 H1 h1 => tG.wk h1 fun y1 H2 ⟨d, d', F2, ρ2, v2, S2, he, hs, p1, p2, q⟩ => ?_
  cases p1 <;> first | (exact q.elim) | skip
  cases p2 <;> first | (exact q.elim) | skip
  exact ⟨_, _, rfl, PostA.done (P := pV Z) q hs .int⟩
theorem se_intOf {a : Ex} {x : Expr} {p pos} (hg : Gl X "int") (hm : X.mg "int" = none) (ha : PE X x (tE Z W G a)) (h1 : starEach [x] X.env = [(false, eval x X.env)]) : PE X (.Call (.Name "int" p) [x] [] pos) (tE Z W G (.intOf a)) := by
  refine (pe_callTy call_int1 hg hm (by decide +kernel) (pa_one ha h1) (he := by rw [h1]; rfl)).imp fun σ H Q h => ?_
  refine (tG.bind (P := pV Z) (k := fun x _ S => match x with | .int i => R.ok (D.int i) S | .bl b => .ok (.int (b2 b)) S | _ => .bad) (h.eq fun v S => by rw [ev] <;> rfl)).wk fun x1 H1 ⟨d, F1, ρ1, v1, S1, he, hs, p, q⟩ => ?_
  cases p with
  | int => exact .inl ⟨_, rfl, PostA.done (P := pV Z) q hs .int⟩
  | bl => exact .inr ⟨_, rfl, PostA.done (P := pV Z) q hs .int⟩
  | _ => exact q.elim
theorem allB_reps : ∀ {l : List D} {b : Bool} {vs : List V} {F : Hp} {ρ : List Addr}, allB l = some b → Reps Z F ρ l vs → ∃ bs : List Bool, vs = bs.map V.bl ∧ b = bs.all id
  | [], b, vs, F, ρ, h, r => by cases h; cases r; exact ⟨[], rfl, rfl⟩
  | d :: l, b, vs, F, ρ, h, r => by
    cases d <;> simp only [allB] at h <;> first | (cases h; done) | skip
    rename_i c
    cases e : allB l with
    | none => rw [e] at h; cases h
    | some m =>
      rw [e] at h; cases h
      cases r with
      | cons r1 r2 =>
        obtain ⟨bs, e1, e2⟩ := allB_reps e r2
        cases r1
        exact ⟨c :: bs, by rw [e1]; rfl, by rw [e2]; rfl⟩
theorem se_all {s : Sq} {a : Expr} {p pos} (hg : Gl X "all") (hm : X.mg "all" = none) (ha : OkQ X Z W G s a) (hc : X.calm = true) (h1 : starEach [a] X.env = [(false, eval a X.env)]) :
    PE X (.Call (.Name "all" p) [a] [] pos) (tE Z W G (.all s)) := by
  refine (pe_callB (cr_all hc) hg hm (by decide +kernel) (pa_one ha.2.1 h1) (he := by rw [h1]; rfl)).imp fun σ H Q h => ?_
  refine (tG.bind (P := pL Z) (k := fun l _ S => match allB l with | some b => R.ok (D.bl b) S | none => .bad) (h.eq fun v S => by rw [ev] <;> rfl)).wk fun x H1 ⟨l, F1, ρ1, v1, S1, he, hs, ⟨c, vs, ex, hq, r⟩, q⟩ => ?_
  subst ex
  cases e : allB l with
  | none => rw [e] at q; exact q.elim
  | some b =>
    rw [e] at q
    obtain ⟨bs, rfl, rfl⟩ := allB_reps e r
    exact ⟨c, bs, rfl, .inl hq, PostA.done (P := pV Z) q hs .bl⟩
end
end Mi

set_option Elab.async false
set_option linter.all false
set_option maxRecDepth 100000
set_option maxHeartbeats 4000000
/-! Mi, part 11: what is walked; comprehensions. -/
namespace Mi
open PySem PySem.Spec PyProof.Rows L2
section
variable {Z : Ci} {W : WX} {G : Ga} {X : Cx} {α β γ δ : Type}
/-- an iterator that yields the values l, while all but O stands -/
def pI (Z : Ci) (O : Addr → Prop) : List D → L2.It → Hp → List Addr → Hp → Prop := fun l J F ρ H => ∃ (Gd : Hp → Prop) (Y : Nat → Hp → V → Hp → Prop), Walk J l.length Gd Y ∧
  (∀ F1 ρ1 S1 H1, Ext O F ρ H F1 ρ1 H1 → StoR Z F1 ρ1 S1 H1 → Gd H1) ∧
  ∀ (i : Nat) (Hc : Hp) (x : V) (H' : Hp) (F1 : Hp) (ρ1 : List Addr) (S1 : Sto), Ext O F ρ H F1 ρ1 Hc → StoR Z F1 ρ1 S1 Hc → i < l.length → Y i Hc x H' → ∃ F2 d, Ext nO F1 ρ1 Hc F2 ρ1 H' ∧ StoR Z F2 ρ1 S1 H' ∧ l[i]? = some d ∧ Rep Z F2 ρ1 d x
abbrev tI (Z : Ci) (W : WX) (G : Ga) (O : Addr → Prop) (it : Wk) : TI := tG Z W (evt G it) (pI Z O)
/-- an operand that stands still while all but O does -/
def qQ (Z : Ci) (O : Addr → Prop) : List D → V → Hp → List Addr → Hp → Prop := fun l x F ρ H => ∃ a vs, x = .ref a ∧ (Rd F a (.lst vs) ∨ ((∀ b, ¬ O b) ∧ Rd H a (.lst vs)) ∨ SqT Z.K F a vs) ∧ Reps Z F ρ l vs
abbrev tQo (Z : Ci) (W : WX) (G : Ga) (O : Addr → Prop) (s : Sq) : TE := tG Z W (evq G s) (qQ Z O)
def noOwn : Sq → Bool
  | .own _ => false
  | .ex _ => true
theorem sqo_of {s : Sq} {a : Expr} {O : Addr → Prop} (h : OkQ X Z W G s a) (ho : noOwn s = true ∨ ∀ b, ¬ O b) (hx : ∀ e, s = .ex e → PE X a (tE Z W G e)) : PE X a (tQo Z W G O s) := by
  cases s with
  | own i =>
    have ho : ∀ b, ¬ O b := ho.resolve_left (by simp [noOwn])
    refine h.1.imp fun σ H Q ⟨F, ρ, v, S, he, hs, hp⟩ => ⟨F, ρ, v, S, he, hs, hp.mono fun l x F' ρ' H' _ p k => k x ?_⟩
    obtain ⟨a, vs, ex, h, r⟩ := p
    exact ⟨a, vs, ex, h.elim (fun q => .inr (.inl ⟨ho, q⟩)) fun q => .inr (.inr q), r⟩
  | ex e =>
    refine (hx e rfl).imp fun σ H Q q => ?_
    refine tG.map (P := pV Z) (k := fun x S => match x with | .lst l => R.ok l S | .tup l => .ok l S | _ => .bad) (q.eq fun v S => by rw [evq] <;> rfl) fun d b F ρ H S hs p => ?_
    cases p with
    | lst h1 r => exact .inl ⟨_, rfl, _, _, rfl, .inl h1, r⟩
    | tup h1 r => exact .inl ⟨_, rfl, _, _, rfl, .inr (.inr h1), r⟩
    | _ => exact .inr rfl
theorem qQ_seq {O : Addr → Prop} {F H F1 H1 : Hp} {ρ ρ1 : List Addr} {S S1 : Sto} {a : Addr} {vs : List V} (hK : X.K = Z.K) (h : Rd F a (.lst vs) ∨ ((∀ b, ¬ O b) ∧ Rd H a (.lst vs)) ∨ SqT Z.K F a vs) (s : StoR Z F ρ S H) :
    (∀ F1 ρ1 S1 H1, Ext O F ρ H F1 ρ1 H1 → StoR Z F1 ρ1 S1 H1 → Rd H1 a (.lst vs)) ∨ (∀ F1 ρ1 S1 H1, Ext O F ρ H F1 ρ1 H1 → StoR Z F1 ρ1 S1 H1 → SqT X.K H1 a vs) := by
  rcases h with h | ⟨ho, h⟩ | h
  · exact .inl fun F1 ρ1 S1 H1 e s1 => rdM s1.le (rdM e.le h)
  · exact .inl fun F1 ρ1 S1 H1 e s1 => rd_ext e s (ho a) h
  · exact .inr fun F1 ρ1 S1 H1 e s1 => by rw [hK]; exact seqT s1.le (seqT e.le h)
theorem nth_of {xs : List V} {l : List D} {F : Hp} {ρ : List Addr} (r : Reps Z F ρ l xs) {i : Nat} {x : V} (h : xs[i]? = some x) : ∃ d, l[i]? = some d ∧ Rep Z F ρ d x := by
  have hi : i < l.length := by rw [r.len]; exact (List.getElem?_eq_some_iff.mp h).1
  obtain ⟨v, hv, q⟩ := r.get (n := i) (d := l[i]) (by simp [hi])
  rw [h] at hv; cases hv
  exact ⟨l[i], by simp [hi], q⟩
/-- over a list or a tuple -/
def iSeq (K : PySem.W.Frag) (tl : TE) : TI := fun σ H R => tl σ H fun x H1 => ∃ a xs, x = .ref a ∧ ((SqL K H1 a xs ∧ R (Itl K a) H1) ∨ (SqT K H1 a xs ∧ R (Itt K a) H1))
theorem pi_seq {tg l : Expr} {tl : TE} (hl : PE X l tl) : PI X tg l (iSeq X.K tl) := by
  refine ⟨fun pins s σ H R I h => ?_⟩
  refine thn (hl.run pins s σ H _ I h) fun v s1 ⟨x, H1, I1, r1, a, xs, ex, hq⟩ => ?_
  subst ex
  cases r1
  rcases hq with ⟨hq, q⟩ | ⟨hq, q⟩
  · obtain ⟨us, rv, pl, _⟩ := I1.list hq
    refine wpAny_pyIter_list pl.isList ⟨s1.heap.objs.size, [s1.heap.objs.size], _, _, H1, rfl, I1.kept (t' := s1.toks) fun b o e => Heap.get?_push_of_some _ e, turn_list a _, ⟨_, Heap.get?_push_size _ rfl, rfl, rfl⟩, fun b hb => ?_, q⟩
    rw [List.mem_singleton.mp hb]
    exact I1.fpOk (Nat.le_refl _) (I1.hok.fresh (Nat.le_refl _))
  · obtain ⟨us, rv, pl, _⟩ := I1.tuple hq
    refine wpAny_pyIter_tuple (show s1.heap.IsTuple a us.toArray from pl) ⟨s1.heap.objs.size, [s1.heap.objs.size], _, _, H1, rfl, I1.kept (t' := s1.toks) fun b o e => Heap.get?_push_of_some _ e, turn_tuple a _, ⟨_, Heap.get?_push_size _ rfl, rfl, rfl⟩, fun b hb => ?_, q⟩
    rw [List.mem_singleton.mp hb]
    exact I1.fpOk (Nat.le_refl _) (I1.hok.fresh (Nat.le_refl _))
theorem walk_len {J : L2.It} {n m : Nat} {Gd : Hp → Prop} {Y : Nat → Hp → V → Hp → Prop} (w : Walk J n Gd Y) (e : n = m) : Walk J m Gd Y := e ▸ w
theorem si_seq {s : Sq} {tg a : Expr} {O : Addr → Prop} (hK : X.K = Z.K) (ha : PE X a (tQo Z W G O s)) : PI X tg a (tI Z W G O (.seq s)) := by
  refine ⟨fun pins st σ H Rr I h => (pi_seq ha).run pins st σ H Rr I ?_⟩
  refine (tG.bind (P := qQ Z O) (k := fun l _ S => R.ok l S) (h.eq fun v S => by rw [evt]; cases evq G s v S <;> rfl)).wk fun x H1 ⟨l, F1, ρ1, v1, S1, he, hs, ⟨c, vs, ex, hq, r⟩, q⟩ => ?_
  subst ex
  refine ⟨c, vs, rfl, ?_⟩
  rcases qQ_seq (X := X) (F1 := F1) (H1 := H1) (ρ1 := ρ1) (S1 := S1) hK hq hs with z | z
  · refine .inl ⟨.inl (z _ _ _ _ .refl hs), PostA.done (P := pI Z O) q hs ⟨_, _, walk_len (walk_list (K := X.K) (a := c) (xs := vs)) r.len.symm, fun F2 ρ2 S2 H2 e s2 => .inl (z _ _ _ _ e s2), fun i Hc x H' F2 ρ2 S2 e s2 _ y => ?_⟩⟩
    obtain ⟨rfl, hx⟩ := y
    obtain ⟨d, h1, h2⟩ := nth_of (e.reps r) hx
    exact ⟨F2, d, .refl, s2, h1, h2⟩
  · refine .inr ⟨z _ _ _ _ .refl hs, PostA.done (P := pI Z O) q hs ⟨_, _, walk_len (walk_tup (K := X.K) (a := c) (xs := vs)) r.len.symm, fun F2 ρ2 S2 H2 e s2 => z _ _ _ _ e s2, fun i Hc x H' F2 ρ2 S2 e s2 _ y => ?_⟩⟩
    obtain ⟨rfl, hx⟩ := y
    obtain ⟨d, h1, h2⟩ := nth_of (e.reps r) hx
    exact ⟨F2, d, .refl, s2, h1, h2⟩
theorem upto_len : ∀ (n : Nat) (i : Int), (upto n i).length = n
  | 0, _ => rfl
  | n + 1, i => by show (upto n (i + 1)).length + 1 = n + 1; rw [upto_len]
theorem upto_get : ∀ (n : Nat) (i : Int) (k : Nat), k < n → (upto n i)[k]? = some (.int (i + k))
  | n + 1, i, 0, _ => by show some (D.int i) = _; simp
  | n + 1, i, k + 1, h => by
    show (upto n (i + 1))[k]? = _
    rw [upto_get n (i + 1) k (by omega)]
    congr 2; omega
theorem pI_range {O : Addr → Prop} {lo : Int} {n : Nat} {F H : Hp} {ρ : List Addr} : pI Z O (upto n lo) (Itr lo n) F ρ H := by
  refine ⟨_, _, walk_len (walk_range (lo := lo) (n := n)) (upto_len n lo).symm, fun _ _ _ _ _ _ => trivial, fun i Hc x H' F1 ρ1 S1 e s hi y => ?_⟩
  obtain ⟨rfl, rfl⟩ := y
  rw [upto_len] at hi
  exact ⟨F1, _, .refl, s, upto_get n lo i hi, .int⟩
theorem si_rng1 {a : Ex} {tg x : Expr} {O : Addr → Prop} {p pos} (hg : Gl X "range") (hm : X.mg "range" = none) (ha : PE X x (tE Z W G a)) (h1 : starEach [x] X.env = [(false, eval x X.env)]) : PI X tg (.Call (.Name "range" p) [x] [] pos) (tI Z W G O (.rng1 a)) := by
  refine ⟨fun pins st σ H Rr I h => (pi_range1 hg hm (pa_one ha h1) h1).run pins st σ H Rr I ?_⟩
  refine (tG.bind (P := pV Z) (k := fun x _ S => match x with | .int j => if -4611686018427387904 ≤ j ∧ j < 4611686018427387904 then R.ok (upto j.toNat 0) S else .bad | _ => .bad) (h.eq fun v S => by rw [evt] <;> rfl)).wk fun x H1 ⟨d, F1, ρ1, v1, S1, he, hs, p, q⟩ => ?_
  cases p with
  | @int j =>
    by_cases z : -4611686018427387904 ≤ j ∧ j < 4611686018427387904
    · simp only [if_pos z] at q
      exact ⟨j, rfl, by omega, by omega, PostA.done (P := pI Z O) q hs pI_range⟩
    · simp only [if_neg z] at q; exact q.elim
  | _ => exact q.elim
theorem si_rng2 {a b : Ex} {tg x y : Expr} {O : Addr → Prop} {p pos} (hg : Gl X "range") (hm : X.mg "range" = none) (ha : PE X x (tE Z W G a)) (hb : PE X y (tE Z W G b)) (h2 : starEach [x, y] X.env = [(false, eval x X.env), (false, eval y X.env)]) (h1 : starEach [y] X.env = [(false, eval y X.env)]) :
    PI X tg (.Call (.Name "range" p) [x, y] [] pos) (tI Z W G O (.rng2 a b)) := by
  refine ⟨fun pins st σ H Rr I h => (pi_range2 hg hm (pa_two ha hb (by rw [h2, h1]) h1) h2 h1).run pins st σ H Rr I ?_⟩
  refine (tG.bind2 (f := ev G a) (g := ev G b) (k := fun x y _ S => match x, y with | .int i, .int j => if (-4611686018427387904 ≤ i ∧ i < 4611686018427387904) ∧ -4611686018427387904 ≤ j ∧ j < 4611686018427387904 then R.ok (upto (j - i).toNat i) S else .bad | _, _ => .bad) (P := pV Z) (P' := pV Z)
    (fun a b F ρ H F1 ρ1 H1 S e s p => pV.ext e s p) (h.eq fun v S => by rw [evt] <;> rfl)).wk fun x1 H1 h1 => tG.wk h1 fun y1 H2 ⟨d, d', F2, ρ2, v2, S2, he, hs, p1, p2, q⟩ => ?_
  cases p1 with
  | @int i =>
    cases p2 with
    | @int j =>
      by_cases z : (-4611686018427387904 ≤ i ∧ i < 4611686018427387904) ∧ -4611686018427387904 ≤ j ∧ j < 4611686018427387904
      · simp only [if_pos z] at q
        exact ⟨i, j, rfl, ⟨by omega, by omega, by omega, by omega⟩, PostA.done (P := pI Z O) q hs pI_range⟩
      · simp only [if_neg z] at q; exact q.elim
    | _ => exact q.elim
  | _ => exact q.elim
/-! ### slots that are stored -/
theorem EnvR.put {F H : Hp} {ρ : List Addr} {v : Env} {σ : L2.St} (h : EnvR Z F ρ v σ H) {i : Nat} {d : D} {x : V} (r : Rep Z F ρ d x) : EnvR Z F ρ (setN v i (.va d)) (σ.set i (some x)) H := by
  rw [setN_eq]
  have own : ∀ {j : Nat} {s : Sl} {o : Option V} {a : Addr}, (v.set i (.va d))[j]? = some s → (σ.set i (some x))[j]? = some o → Own s o a → v[j]? = some s ∧ σ[j]? = some o := by
    intro j s o a h1 h2 w
    by_cases e : i = j
    · subst e
      rw [List.getElem?_set] at h1
      split at h1
      · split at h1
        · cases h1; exact w.1.elim
        · cases h1
      · rename_i z; exact absurd rfl z
    · rw [List.getElem?_set_ne e] at h1 h2; exact ⟨h1, h2⟩
  refine ⟨by rw [List.length_set, List.length_set]; exact h.len, fun j s o h1 h2 => ?_, fun j k s t o p a h1 h2 h3 h4 w1 w2 => ?_, fun j s o a h1 h2 w => ?_⟩
  · by_cases e : i = j
    · subst e
      rw [List.getElem?_set] at h1 h2
      rw [if_pos rfl] at h1 h2
      split at h1
      · split at h2
        · cases h1; cases h2; exact ⟨x, rfl, r⟩
        · cases h2
      · cases h1
    · rw [List.getElem?_set_ne e] at h1 h2; exact h.at_ j s o h1 h2
  · obtain ⟨a1, a2⟩ := own h1 h2 w1
    obtain ⟨b1, b2⟩ := own h3 h4 w2
    exact h.inj j k s t o p a a1 a2 b1 b2 w1 w2
  · obtain ⟨a1, a2⟩ := own h1 h2 w
    exact h.out j s o a a1 a2 w
theorem EnvR.forget {F H : Hp} {ρ : List Addr} {v : Env} {σ : L2.St} (h : EnvR Z F ρ v σ H) {i : Nat} {o' : Option V} : EnvR Z F ρ (setN v i .un) (σ.set i o') H := by
  rw [setN_eq]
  have own : ∀ {j : Nat} {s : Sl} {o : Option V} {a : Addr}, (v.set i .un)[j]? = some s → (σ.set i o')[j]? = some o → Own s o a → v[j]? = some s ∧ σ[j]? = some o := by
    intro j s o a h1 h2 w
    by_cases e : i = j
    · subst e
      rw [List.getElem?_set, if_pos rfl] at h1
      split at h1
      · cases h1; exact w.1.elim
      · cases h1
    · rw [List.getElem?_set_ne e] at h1 h2; exact ⟨h1, h2⟩
  refine ⟨by rw [List.length_set, List.length_set]; exact h.len, fun j s o h1 h2 => ?_, fun j k s t o p a h1 h2 h3 h4 w1 w2 => ?_, fun j s o a h1 h2 w => ?_⟩
  · by_cases e : i = j
    · subst e
      rw [List.getElem?_set, if_pos rfl] at h1
      split at h1
      · cases h1; trivial
      · cases h1
    · rw [List.getElem?_set_ne e] at h1 h2; exact h.at_ j s o h1 h2
  · obtain ⟨a1, a2⟩ := own h1 h2 w1
    obtain ⟨b1, b2⟩ := own h3 h4 w2
    exact h.inj j k s t o p a a1 a2 b1 b2 w1 w2
  · obtain ⟨a1, a2⟩ := own h1 h2 w
    exact h.out j s o a a1 a2 w
theorem EnvR.wiped {F H : Hp} {ρ : List Addr} {v : Env} {σ : L2.St} (h : EnvR Z F ρ v σ H) : ∀ own : List Nat, EnvR Z F ρ (wipe v own) (L2.wipe σ own) H
  | [] => h
  | i :: is => (EnvR.wiped h is).forget
/-- the slots of a target -/
def slotsP : Pt → List Nat
  | .nm i => [i]
  | .tp is => is
/-- two slot maps that are one but for these slots -/
def But (is : List Nat) (σ σ' : L2.St) : Prop := σ.length = σ'.length ∧ ∀ j, j ∉ is → σ'[j]? = σ[j]?
theorem wipe_get {σ : L2.St} : ∀ {own : List Nat} {j : Nat}, (L2.wipe σ own)[j]? = if j ∈ own ∧ j < σ.length then some none else σ[j]?
  | [], j => by simp [L2.wipe]
  | i :: is, j => by
    show ((L2.wipe σ is).set i none)[j]? = _
    rw [List.getElem?_set]
    by_cases e : i = j
    · subst e
      rw [if_pos rfl, L2.wipe_length]
      by_cases hl : i < σ.length
      · simp [hl]
      · simp [hl, List.getElem?_eq_none (Nat.le_of_not_lt hl)]
    · rw [if_neg e, wipe_get]
      have : (j ∈ i :: is ∧ j < σ.length) ↔ (j ∈ is ∧ j < σ.length) := by simp [Ne.symm e]
      simp only [this]
theorem But.wipe {is own : List Nat} {σ σ' : L2.St} (h : But is σ σ') (hs : ∀ i ∈ is, i ∈ own) : L2.wipe σ' own = L2.wipe σ own := by
  apply List.ext_getElem?
  intro j
  rw [wipe_get, wipe_get, ← h.1]
  by_cases z : j ∈ own ∧ j < σ.length
  · rw [if_pos z, if_pos z]
  · rw [if_neg z, if_neg z]
    by_cases w : j ∈ is
    · have hl : ¬ j < σ.length := fun q => z ⟨hs j w, q⟩
      rw [List.getElem?_eq_none (Nat.le_of_not_lt hl), List.getElem?_eq_none (by rw [← h.1]; exact Nat.le_of_not_lt hl)]
    · exact h.2 j w
theorem wipe_twice {σ : L2.St} {own : List Nat} : L2.wipe (L2.wipe σ own) own = L2.wipe σ own := by
  apply List.ext_getElem?
  intro j
  rw [wipe_get, wipe_get, L2.wipe_length]
  split <;> simp_all
/-- a target that stores -/
def StP (Z : Ci) (p : Pt) (g : TG) : Prop := ∀ (d : D) (v w : Env) (x : V) (σ : L2.St) (F H : Hp) (ρ : List Addr) (S : Sto) (Q : L2.St → Hp → Prop), bindPt p d v = some w → Rep Z F ρ d x → EnvR Z F ρ v σ H → StoR Z F ρ S H →
  (∀ σ', EnvR Z F ρ w σ' H → But (slotsP p) σ σ' → Q σ' H) → g x σ H Q
def OkP (Z : Ci) (X : Cx) (p : Pt) (tg : Expr) (g : TG) : Prop := PG X tg g ∧ StP Z p g
theorem okP_nm {i : Nat} {x : Str} {pos : Pos} (hN : X.N.Nodup) (hi : X.N[i]? = some x) (hx : Loc X.env.scope x) (hf : X.fn x = true ∨ X.env.scope.names.lookup x = some .local) : OkP Z X (.nm i) (.Name x pos) (gName i) := by
  refine ⟨pg_name hN hi hx hf, fun d v w x σ F H ρ S Q hb r he hs k => ?_⟩
  cases hb
  exact k _ (he.put r) ⟨by rw [List.length_set], fun j hj => List.getElem?_set_ne (fun e => hj (by simp [slotsP, e]))⟩
/-- the names of a tuple target -/
inductive TupOk (X : Cx) : List Nat → List Expr → TGs → Prop where
  | nil : TupOk X [] [] gNil
  | cons {i : Nat} {is : List Nat} {x : Str} {pos : Pos} {es : List Expr} {g : TGs} (hi : X.N[i]? = some x) (hx : Loc X.env.scope x) (hf : X.fn x = true ∨ X.env.scope.names.lookup x = some .local) (t : TupOk X is es g) : TupOk X (i :: is) (.Name x pos :: es) (gCons (gName i) g)
theorem TupOk.pgs {is : List Nat} {es : List Expr} {g : TGs} (hN : X.N.Nodup) (h : TupOk X is es g) : PGs X es g := by
  induction h with
  | nil => exact pgs_nil
  | cons hi hx hf t ih => exact pgs_cons (pg_name hN hi hx hf) ih
theorem TupOk.len {is : List Nat} {es : List Expr} {g : TGs} (h : TupOk X is es g) : (assignEach es X.env).length = is.length ∧ (assignEach es X.env).findIdx? (·.1) = none := by
  induction h with
  | nil => exact ⟨rfl, rfl⟩
  | cons hi hx hf t ih =>
    rename_i i is x pos es g
    have e : assignEach (.Name x pos :: es) X.env = (false, assign (.Name x pos) X.env) :: assignEach es X.env := rfl
    rw [e]
    refine ⟨by simp [ih.1], ?_⟩
    rw [List.findIdx?_cons]
    simp [ih.2]
theorem TupOk.run {is : List Nat} {es : List Expr} {g : TGs} (h : TupOk X is es g) : ∀ {ds : List D} {vs : List V} {v w : Env} {σ : L2.St} {F H : Hp} {ρ : List Addr} {Q : L2.St → Hp → Prop}, setAll is ds v = some w → Reps Z F ρ ds vs → EnvR Z F ρ v σ H →
    (∀ σ', EnvR Z F ρ w σ' H → But is σ σ' → Q σ' H) → g vs σ H Q := by
  induction h with
  | nil =>
    intro ds vs v w σ F H ρ Q hw r he k
    cases r with
    | nil => cases hw; exact ⟨rfl, k _ he ⟨rfl, fun _ _ => rfl⟩⟩
    | cons _ _ => cases hw
  | cons hi hx hf t ih =>
    rename_i i is x pos es g
    intro ds vs v w σ F H ρ Q hw r he k
    cases r with
    | nil => cases hw
    | cons r1 r2 =>
      refine ⟨_, _, rfl, ?_⟩
      exact ih (Q := Q) hw r2 (he.put r1) fun σ' he' hb => k σ' he' ⟨by rw [← hb.1, List.length_set], fun j hj => by
        have hj' : j ≠ i ∧ j ∉ is := by simpa using hj
        rw [hb.2 j hj'.2, List.getElem?_set_ne (Ne.symm hj'.1)]⟩
theorem okP_tp {is : List Nat} {es : List Expr} {k : Nat} {pos : Pos} {g : TGs} (hK : X.K = Z.K) (hN : X.N.Nodup) (hc : X.calm = true) (h : TupOk X is es g) : OkP Z X (.tp is) (.Tuple es k pos) (gTup X.K is.length g) := by
  refine ⟨pg_tup hc (h.pgs hN) h.len.1 h.len.2, fun d v w x σ F H ρ S Q hb r he hs q => ?_⟩
  cases r with
  | @tup a vs l h1 r =>
    have hb : setAll is l v = some w := hb
    have hl : ∀ {is : List Nat} {l : List D} {v w : Env}, setAll is l v = some w → l.length = is.length := by
      intro is
      induction is with
      | nil => intro l v w h; cases l with
        | nil => rfl
        | cons _ _ => cases h
      | cons i is ih => intro l v w h; cases l with
        | nil => cases h
        | cons _ l => simp [ih (show setAll is l _ = some w from h)]
    exact ⟨a, vs, rfl, by rw [hK]; exact seqT hs.le h1, by rw [← r.len]; exact hl hb, h.run hb r he fun σ' he' hb' => q σ' he' hb'⟩
  | _ => cases hb
end
end Mi

set_option Elab.async false
set_option linter.all false
set_option maxRecDepth 100000
set_option maxHeartbeats 4000000
/-! Mi, part 12: list comprehensions. -/
namespace Mi
open PySem PySem.Spec PyProof.Rows L2
section
variable {Z : Ci} {W : WX} {G : Ga} {X : Cx}
/-- a comprehension's tests -/
def OkC (X : Cx) (Z : Ci) (W : WX) (G : Ga) : Exo → List Expr → Prop
  | .no, [] => True
  | .yes e, [a] => PT X a (tT Z W G e)
  | _, _ => False
theorem pts_of {c : Exo} {ifs : List Expr} (h : OkC X Z W G c ifs) : PTs X ifs (tG Z W (evc G c) pEq) := by
  cases c with
  | no =>
    cases ifs with
    | nil =>
      refine ⟨fun pins s σ H Q I ⟨F, ρ, v, S, he, hs, hp⟩ => pts_nil.run pins s σ H Q I ?_⟩
      exact PostA.done (P := pEq) (W := W) (σ := σ) (a := true) (by rw [evc] at hp; exact hp) hs rfl
    | cons a b => exact h.elim
  | yes e =>
    cases ifs with
    | nil => exact h.elim
    | cons a b =>
      cases b with
      | nil => exact ⟨fun pins s σ H Q I ⟨F, ρ, v, S, he, hs, hp⟩ => (pts_one h).run pins s σ H Q I ⟨F, ρ, v, S, he, hs, by rw [evc] at hp; exact hp⟩⟩
      | cons _ _ => exact h.elim
theorem Ext.mut {O : Addr → Prop} {F F1 H H1 : Hp} {ρ ρ1 : List Addr} {D : Addr} {o : HO} (e : Ext O F ρ H F1 ρ1 H1) (h : H D = none) : Ext O F ρ H F1 ρ1 (upd H1 D o) := by
  refine ⟨e.le, fun a u q h1 h2 => ?_, fun a q => ?_, e.new, e.pre⟩
  · rw [upd_ne (ne_of_none q h)]; exact e.keep a u q h1 h2
  · by_cases z : a = D
    · subst z; exact h
    · rw [upd_ne z] at q; exact e.dom a q
theorem StoR.mut {F H : Hp} {ρ : List Addr} {S : Sto} {D : Addr} {o u : HO} (s : StoR Z F ρ S H) (h : H D = some u) (hu : ∀ kv, u ≠ .dK kv) (hf : F D = none) : StoR Z F ρ S (upd H D o) := by
  refine ⟨fun a w q => ?_, s.len, s.nd, fun n kv a h1 h2 => ?_⟩
  · rw [upd_ne (ne_of_none q hf)]; exact s.le a w q
  · obtain ⟨g, vs, hh, r⟩ := s.at_ n kv a h1 h2
    refine ⟨g, vs, ?_, r⟩
    rw [upd_ne (fun z => by subst z; rw [h] at hh; cases hh; exact hu _ rfl)]
    exact hh
/-- one item of a comprehension -/
def cmF (G : Ga) (e : Ex) (own : List Nat) (p : Pt) (c : Exo) (v : Env) : D → Sto → R (Option D) := fun x S => match bindPt p x (wipe v own) with
  | some w => (evc G c w S).nox.bind fun r S => if r = true then (ev G e w S).nox.bind fun d S => .ok (some d) S else .ok none S
  | none => .bad
theorem ev_comp {e own p it c v S} : ev G (.comp e own p it c) v S = (evt G it v S).bind fun l S => if l.length < SZ then (compL (cmF G e own p c v) l S).bind fun r S => .ok (.lst r) S else .bad := by
  rw [ev]; rfl
theorem compL_cons {f : D → Sto → R (Option D)} {x : D} {l : List D} {S : Sto} : compL f (x :: l) S = (f x S).bind fun r S => (compL f l S).bind fun rs S => match r with
    | some d => .ok (d :: rs) S
    | none => .ok rs S := rfl
theorem tLc_of {e : Ex} {p : Pt} {it : Wk} {c : Exo} {ow : List (Str × Nat)} {g : TG} {σ : L2.St} {H : Hp} {Q : VK} (hp : ∀ i ∈ slotsP p, i ∈ ow.map (·.2)) (hst : StP Z p g) (hq0 : tF Z W (ev G (.comp e (ow.map (·.2)) p it c)) σ H Q) :
    tLc (tI Z W G nO it) g (tG Z W0 (evc G c) pEq) (tE Z W0 G e) (ow.map (·.2)) σ H Q := by
  obtain ⟨F, ρ, v, S, hv, hs0, hq⟩ := hq0
  rw [ev_comp] at hq
  refine ⟨F, ρ, v, S, hv, hs0, (PostA.bind (P := pI Z nO) hq).mono fun l J F1 ρ1 H1 e1 p1 k L hL => ?_⟩
  obtain ⟨l, F1', ρ1', S1, e1', s1, pI1, q1⟩ := k J p1
  generalize hF1 : F1' = F1x at *
  clear p1 e1 k hF1
  have hv1 := hv.ext e1'
  by_cases z : l.length < SZ
  · rw [if_pos z] at q1
    obtain ⟨Gd, Y, w, hGd, hY⟩ := pI1
    have fL : F1x L = none := by
      cases zz : F1x L with
      | none => rfl
      | some u => rw [s1.le L u zz] at hL; cases hL
    have LH : H L = none := e1'.dom L hL
    refine lc_it w (fun i H' => ∃ F' ρ' S' acc accV, Ext nO F1x ρ1' H1 F' ρ' H' ∧ StoR Z F' ρ' S' H' ∧ H' L = some (.lst accV) ∧ F' L = none ∧ Reps Z F' ρ' acc accV ∧ acc.length ≤ i ∧
      PostA Z W ((compL (cmF G e (ow.map (·.2)) p c v) (l.drop i) S').bind fun rs S => R.ok (D.lst (acc ++ rs)) S) (pF Z H) F1x ρ1' σ H1 Q) ?_ ?_ ?_ ?_
    · exact ⟨F1x, ρ1', S1, [], [], Ext.refl.mut hL, s1.made hL, upd_same, fL, .nil, Nat.le_refl _, by simpa using q1⟩
    · rintro i H' _ ⟨F', ρ', S', acc, accV, ee, ss, _⟩
      exact hGd _ _ _ _ ee ss
    · rintro i x H' H'' hi' ⟨F', ρ', S', acc, accV, ee, ss, hL', fL', ra, hl, qq⟩ y
      obtain ⟨F2, d, e2, s2, hd, rd⟩ := hY i H' x H'' F' ρ' S' ee ss hi' y
      have fresh : ∀ {F3 H3 : Hp} {ρ3 : List Addr}, Ext nO F' ρ' H' F3 ρ3 H3 → H3 L = some (.lst accV) ∧ F3 L = none := fun {F3 H3 ρ3} e3 => by
        refine ⟨e3.keep L _ hL' (ss.notin hL' fun _ q => by cases q) (fun q => q), ?_⟩
        cases zz : F3 L with
        | none => rfl
        | some u =>
          rcases e3.new L u zz with q | q | q
          · rw [fL'] at q; cases q
          · rw [hL'] at q; cases q
          · exact q.elim
      have hdr : l.drop i = d :: l.drop (i + 1) := by
        rw [List.drop_eq_getElem_cons hi']
        rw [List.getElem?_eq_getElem hi'] at hd
        rw [Option.some.inj hd]
      rw [hdr, compL_cons] at qq
      cases hb : bindPt p d (wipe v (ow.map (·.2))) with
      | none =>
        have : cmF G e (ow.map (·.2)) p c v d S' = .bad := by unfold cmF; rw [hb]
        rw [this] at qq; exact qq.elim
      | some wv =>
        have ef : cmF G e (ow.map (·.2)) p c v d S' = (evc G c wv S').nox.bind fun r S => if r = true then (ev G e wv S).nox.bind fun d S => .ok (some d) S else .ok none S := by unfold cmF; rw [hb]
        rw [ef] at qq
        have env2 : EnvR Z F2 ρ' (wipe v (ow.map (·.2))) (L2.wipe σ (ow.map (·.2))) H'' := ((hv1.ext ee).ext e2).wiped _
        refine hst d _ wv x _ F2 H'' ρ' S' _ hb rd env2 s2 fun σ2 he2 hbut => ⟨?_, F2, ρ', wv, S', he2, s2, ?_⟩
        · rw [hbut.wipe hp, wipe_twice]
        · cases hcv : evc G c wv S' with
          | bad => rw [hcv] at qq; exact qq.elim
          | ex _ _ _ => rw [hcv] at qq; exact qq.elim
          | ok b S3 =>
            rw [hcv] at qq
            intro b' F3 ρ3 H3 e3 s3 hbb
            obtain rfl : b = b' := hbb
            have e23 := e2.trans e3
            cases b with
            | false =>
              obtain ⟨h1, h2⟩ := fresh e23
              exact ⟨F3, ρ3, S3, acc, accV, ee.trans e23, s3, h1, h2, e23.reps ra, Nat.le_succ_of_le hl, by
                have qq : PostA Z W (((compL (cmF G e (ow.map (·.2)) p c v) (l.drop (i + 1)) S3).bind fun rs S => R.ok rs S).bind fun rs S => R.ok (D.lst (acc ++ rs)) S) (pF Z H) F1x ρ1' σ H1 Q := qq
                cases hz : compL (cmF G e (ow.map (·.2)) p c v) (l.drop (i + 1)) S3 <;> rw [hz] at qq <;> exact qq⟩
            | true =>
              rw [if_pos rfl]
              refine ⟨F3, ρ3, wv, S3, he2.ext e3, s3, ?_⟩
              have qq : PostA Z W ((((ev G e wv S3).nox.bind fun d S => .ok (some d) S).bind fun r S => (compL (cmF G e (ow.map (·.2)) p c v) (l.drop (i + 1)) S).bind fun rs S => match r with
                | some d => R.ok (d :: rs) S
                | none => .ok rs S).bind fun rs S => R.ok (D.lst (acc ++ rs)) S) (pF Z H) F1x ρ1' σ H1 Q := qq
              cases hev : ev G e wv S3 with
              | bad => rw [hev] at qq; exact qq.elim
              | ex _ _ _ => rw [hev] at qq; exact qq.elim
              | ok dd S4 =>
                rw [hev] at qq
                intro y4 F4 ρ4 H4 e4 s4 r4
                have e24 := e23.trans e4
                obtain ⟨h1, h2⟩ := fresh e24
                have hlen : accV.length < sizeLine := by rw [← ra.len, ← sz_line]; omega
                refine ⟨accV, h1, hlen, F4, ρ4, S4, acc ++ [dd], accV ++ [y4], (ee.trans e24).mut hL, s4.mut h1 (fun _ q => by cases q) h2, upd_same, h2, (e24.reps ra).app (.one r4), by simp; exact hl, ?_⟩
                have qq : PostA Z W (((compL (cmF G e (ow.map (·.2)) p c v) (l.drop (i + 1)) S4).bind fun rs S => R.ok (dd :: rs) S).bind fun rs S => R.ok (D.lst (acc ++ rs)) S) (pF Z H) F1x ρ1' σ H1 Q := qq
                cases hz : compL (cmF G e (ow.map (·.2)) p c v) (l.drop (i + 1)) S4 <;> rw [hz] at qq
                · simpa [R.bind, List.append_assoc] using qq
                · exact qq
                · exact qq
    · rintro H' ⟨F', ρ', S', acc, accV, ee, ss, hL', fL', ra, hl, qq⟩
      rw [List.drop_length] at qq
      have qq : PostA Z W (R.ok (D.lst (acc ++ [])) S') (pF Z H) F1x ρ1' σ H1 Q := qq
      rw [List.append_nil] at qq
      exact qq _ _ _ _ ee ss ⟨acc, L, accV, rfl, rfl, hL', fL', LH, ra⟩
  · rw [if_neg z] at q1; exact q1.elim
theorem sf_comp {e : Ex} {own : List Nat} {p : Pt} {it : Wk} {c : Exo} {elt tg iter : Expr} {ifs : List Expr} {scope : Scope} {ow : List (Str × Nat)} {pos : Pos} {g : TG} (hc : X.calm = true) (hN : X.N.Nodup) (hi : PI X tg iter (tI Z W G nO it)) (ok : BlkOk X.N X.env.scope scope ow)
    (ho : ow.map (·.2) = own) (hp : ∀ i ∈ slotsP p, i ∈ own)
    (hg : ∀ (s : Shared) (H : Hp) (C : Addr) (cl : List (Str × Addr)) (fp : List Addr), PG (X.blk s H scope (compEnvC scope cl C X.env) fp) tg g)
    (ht : ∀ (s : Shared) (H : Hp) (C : Addr) (cl : List (Str × Addr)) (fp : List Addr), OkC (X.blk s H scope (compEnvC scope cl C X.env) fp) Z W0 G c ifs)
    (he : ∀ (s : Shared) (H : Hp) (C : Addr) (cl : List (Str × Addr)) (fp : List Addr), PE (X.blk s H scope (compEnvC scope cl C X.env) fp) elt (tE Z W0 G e)) (hst : StP Z p g) (hs : ∀ x, foldedSetIterable iter X.env x = pure x) :
    PE X (.ListComp elt [⟨tg, iter, ifs, 0⟩] scope pos) (tF Z W (ev G (.comp e own p it c))) := by
  subst ho
  exact (pe_lc hc hN hi ok hg (fun s H C cl fp => pts_of (ht s H C cl fp)) he hs).imp fun σ H Q q => tLc_of hp hst q
end
end Mi

set_option Elab.async false
set_option linter.all false
set_option maxRecDepth 100000
set_option maxHeartbeats 4000000
/-! Mi, part 13: statements. -/
namespace Mi
open PySem PySem.Spec PyProof.Rows L2
/-- a base: what stood at some time, and which addresses may be written since -/
structure Bs where
  O : Addr → Prop
  F : Hp
  ρ : List Addr
  H : Hp
  sf : Addr → Prop
def Kp (B : List Bs) (F : Hp) (ρ : List Addr) (H : Hp) : Prop := ∀ b ∈ B, Ext b.O b.F b.ρ b.H F ρ H
def Mine (B : List Bs) (a : Addr) : Prop := ∀ b ∈ B, b.O a ∨ b.H a = none
structure St0 (Z : Ci) (B : List Bs) (v : Env) (S : Sto) (F : Hp) (ρ : List Addr) (σ : L2.St) (H : Hp) : Prop where
  env : EnvR Z F ρ v σ H
  sto : StoR Z F ρ S H
  ext : Kp B F ρ H
  own : ∀ (i : Nat) (s : Sl) (o : Option V) (a : Addr), v[i]? = some s → σ[i]? = some o → Own s o a → Mine B a
  slf : ∀ b ∈ B, ∀ (i : Nat) (c : Nat) (fs : List D) (a : Addr), v[i]? = some (.sf c fs) → σ[i]? = some (some (.ref a)) → b.sf a
def PostS (Z : Ci) (W : WX) (B : List Bs) (r : R Fl) (E : Ends) : Prop := match r with
  | .ok (.nx v) S => ∀ σ F ρ H, St0 Z B v S F ρ σ H → E.nx σ H
  | .ok (.bk v) S => ∀ σ F ρ H, St0 Z B v S F ρ σ H → E.bk σ H
  | .ok (.ct v) S => ∀ σ F ρ H, St0 Z B v S F ρ σ H → E.ct σ H
  | .ok (.rt d) S => ∀ x F ρ H, Kp B F ρ H → StoR Z F ρ S H → Rep Z F ρ d x → E.rt x H
  | .ex c fs S => ∀ cls dx σ F ρ H, Kp B F ρ H → StoR Z F ρ S H → XRep Z c fs cls dx F ρ H → W cls dx σ H
  | .bad => False
def tS (Z : Ci) (W : WX) (f : Env → Sto → R Fl) : TS := fun E σ H => ∃ B v S F ρ, St0 Z B v S F ρ σ H ∧ PostS Z W B (f v S) E
section
variable {Z : Ci} {W : WX} {G : Ga} {X : Cx} {B : List Bs} {v w : Env} {S S1 : Sto} {F F1 : Hp} {ρ ρ1 : List Addr} {σ : L2.St} {H H1 : Hp} {E : Ends} {α β : Type}
theorem St0.step (st : St0 Z B v S F ρ σ H) (e : Ext nO F ρ H F1 ρ1 H1) (s : StoR Z F1 ρ1 S1 H1) : St0 Z B v S1 F1 ρ1 σ H1 := ⟨st.env.ext e, s, fun b hb => (st.ext b hb).trans e, st.own, st.slf⟩
theorem PostS.bind {r : R α} {k : α → Sto → R Fl} {P : α → β → Hp → List Addr → Hp → Prop} (h : PostS Z W B (r.bind k) E) (st : St0 Z B v S F ρ σ H) :
    PostA Z W r P F ρ σ H fun b H1 => ∃ a F1 ρ1 S1, Ext nO F ρ H F1 ρ1 H1 ∧ P a b F1 ρ1 H1 ∧ St0 Z B v S1 F1 ρ1 σ H1 ∧ PostS Z W B (k a S1) E := by
  cases r with
  | ok a S => exact fun b F' ρ' H' e s p => ⟨a, F', ρ', S, e, p, st.step e s, h⟩
  | ex c fs S => exact fun cls dx F' ρ' H' e s x => h cls dx σ F' ρ' H' (fun b hb => (st.ext b hb).trans e) s x
  | bad => exact h
/-- the body of a loop -/
theorem PostS.body {r : R Fl} {k : Env → Sto → R Fl} {N : L2.St → Hp → Prop} (hN : ∀ v S σ F ρ H, St0 Z B v S F ρ σ H → PostS Z W B (k v S) E → N σ H)
    (h : PostS Z W B (r.bind fun r S => match r with | .nx v => k v S | .ct v => k v S | .bk v => .ok (.nx v) S | .rt d => .ok (.rt d) S) E) : PostS Z W B r { E with nx := N, ct := N, bk := E.nx } := by
  cases r with
  | ok a S =>
    cases a with
    | nx v => exact fun σ F ρ H st => hN v S σ F ρ H st h
    | ct v => exact fun σ F ρ H st => hN v S σ F ρ H st h
    | bk v => exact h
    | rt d => exact h
  | ex c fs S => exact h
  | bad => exact h
theorem PostS.base {r : R Fl} {b : Bs} (h : PostS Z W B r E) : PostS Z W (b :: B) r E := by
  have st0 : ∀ {v : Env} {S : Sto} {F : Hp} {ρ : List Addr} {σ : L2.St} {H : Hp}, St0 Z (b :: B) v S F ρ σ H → St0 Z B v S F ρ σ H := fun st => ⟨st.env, st.sto, fun c hc => st.ext c (List.mem_cons_of_mem _ hc), fun i s o a h1 h2 h3 c hc => st.own i s o a h1 h2 h3 c (List.mem_cons_of_mem _ hc), fun c hc => st.slf c (List.mem_cons_of_mem _ hc)⟩
  cases r with
  | ok a S =>
    cases a with
    | nx v => exact fun σ F ρ H st => h σ F ρ H (st0 st)
    | ct v => exact fun σ F ρ H st => h σ F ρ H (st0 st)
    | bk v => exact fun σ F ρ H st => h σ F ρ H (st0 st)
    | rt d => exact fun x F ρ H k => h x F ρ H fun c hc => k c (List.mem_cons_of_mem _ hc)
  | ex c fs S => exact fun cls dx σ F ρ H k => h cls dx σ F ρ H fun c hc => k c (List.mem_cons_of_mem _ hc)
  | bad => exact h
theorem St0.drop {b : Bs} (st : St0 Z (b :: B) v S F ρ σ H) : St0 Z B v S F ρ σ H := ⟨st.env, st.sto, fun c hc => st.ext c (List.mem_cons_of_mem _ hc), fun i s o a h1 h2 h3 c hc => st.own i s o a h1 h2 h3 c (List.mem_cons_of_mem _ hc), fun c hc => st.slf c (List.mem_cons_of_mem _ hc)⟩
theorem PostS.bodyB {b : Bs} {r : R Fl} {k : Env → Sto → R Fl} {N : L2.St → Hp → Prop} (hN : ∀ v S σ F ρ H, St0 Z (b :: B) v S F ρ σ H → PostS Z W B (k v S) E → N σ H)
    (h : PostS Z W B (r.bind fun r S => match r with | .nx v => k v S | .ct v => k v S | .bk v => .ok (.nx v) S | .rt d => .ok (.rt d) S) E) : PostS Z W (b :: B) r { E with nx := N, ct := N, bk := E.nx } := by
  cases r with
  | ok a S =>
    cases a with
    | nx v => exact fun σ F ρ H st => hN v S σ F ρ H st h
    | ct v => exact fun σ F ρ H st => hN v S σ F ρ H st h
    | bk v => exact fun σ F ρ H st => h σ F ρ H st.drop
    | rt d => exact fun x F ρ H k => h x F ρ H fun c hc => k c (List.mem_cons_of_mem _ hc)
  | ex c fs S => exact fun cls dx σ F ρ H k => h cls dx σ F ρ H fun c hc => k c (List.mem_cons_of_mem _ hc)
  | bad => exact h
/-- one turn of a for -/
def forF (G : Ga) (p : Pt) (b : Sms) : D → Env → Sto → R Fl := fun x v S => match bindPt p x v with
  | some w => xss G b w S
  | none => .bad
theorem xs1_for {p it b S} {v : Env} : xs1 G (.for_ p it b) v S = (evt G it v S).bind fun l S => forL (forF G p b) l v S := by rw [xs1]; rfl
theorem tS.eq {f g : Env → Sto → R Fl} (h : tS Z W f E σ H) (e : ∀ v S, f v S = g v S) : tS Z W g E σ H := by
  obtain ⟨B, v, S, F, ρ, st, hp⟩ := h
  exact ⟨B, v, S, F, ρ, st, by rw [← e]; exact hp⟩
/-- an expression, then the rest -/
theorem tS.bind {f : Env → Sto → R α} {k : α → Env → Sto → R Fl} {P : α → β → Hp → List Addr → Hp → Prop} (h : tS Z W (fun v S => (f v S).bind fun a S => k a v S) E σ H) :
    tG Z W f P σ H fun b H1 => ∃ a B v1 S1 F1 ρ1, P a b F1 ρ1 H1 ∧ St0 Z B v1 S1 F1 ρ1 σ H1 ∧ PostS Z W B (k a v1 S1) E := by
  obtain ⟨B, v, S, F, ρ, st, hp⟩ := h
  exact ⟨F, ρ, v, S, st.env, st.sto, (hp.bind st).mono fun a b F' ρ' H' e p g => by
    obtain ⟨a', F1, ρ1, S1, e1, p1, s1, q⟩ := g b p
    exact ⟨a', B, v, S1, F1, ρ1, p1, s1, q⟩⟩

/-! ### slots written -/
/-- the list at a is nobody's -/
def Free (v : Env) (σ : L2.St) (a : Addr) : Prop := ∀ (j : Nat) (t : Sl) (o : Option V), v[j]? = some t → σ[j]? = some o → ¬ Own t o a
/-- what a slot gets -/
def SlN (Z : Ci) (B : List Bs) (F : Hp) (ρ : List Addr) (v : Env) (σ : L2.St) (H : Hp) (s : Sl) (x : V) : Prop := match s with
  | .va d => Rep Z F ρ d x
  | .ol l => ∃ a vs, x = .ref a ∧ H a = some (.lst vs) ∧ F a = none ∧ Reps Z F ρ l vs ∧ Mine B a ∧ Free v σ a
  | _ => False
theorem set_cases {α : Type} {l : List α} {i j : Nat} {x y : α} (h : (l.set i x)[j]? = some y) : (j = i ∧ y = x) ∨ (j ≠ i ∧ l[j]? = some y) := by
  by_cases e : i = j
  · subst e
    rw [List.getElem?_set, if_pos rfl] at h
    split at h
    · exact .inl ⟨rfl, (Option.some.inj h).symm⟩
    · cases h
  · rw [List.getElem?_set_ne e] at h; exact .inr ⟨fun z => e z.symm, h⟩
theorem St0.put {i : Nat} {s : Sl} {x : V} (st : St0 Z B v S F ρ σ H) (n : SlN Z B F ρ v σ H s x) : St0 Z B (setN v i s) S F ρ (σ.set i (some x)) H := by
  rw [setN_eq]
  have ow : ∀ {a : Addr}, Own s (some x) a → ∃ l vs, s = .ol l ∧ H a = some (.lst vs) ∧ Mine B a ∧ Free v σ a := by
    rintro a ⟨w1, w2⟩
    cases s with
    | ol l => obtain ⟨b, vs, rfl, h1, h2, h3, h4, h5⟩ := n; cases w2; exact ⟨l, vs, rfl, h1, h4, h5⟩
    | un => exact w1.elim
    | va d => exact w1.elim
    | sf c fs => exact n.elim
  refine ⟨⟨by rw [List.length_set, List.length_set]; exact st.env.len, fun j t o h1 h2 => ?_, fun j k t u o p a h1 h2 h3 h4 w1 w2 => ?_, fun j t o a h1 h2 w => ?_⟩, st.sto, st.ext, fun j t o a h1 h2 w => ?_, fun b hb j c fs a h1 h2 => ?_⟩
  · rcases set_cases h1 with ⟨e, rfl⟩ | ⟨e, h1⟩ <;> rcases set_cases h2 with ⟨e', rfl⟩ | ⟨e', h2⟩
    · cases t with
      | va d => exact ⟨x, rfl, n⟩
      | ol l => obtain ⟨b, vs, rfl, g1, g2, g3, g4, g5⟩ := n; exact ⟨b, vs, rfl, g1, g2, g3⟩
      | un => exact n.elim
      | sf c fs => exact n.elim
    · exact (e' e).elim
    · exact (e e').elim
    · exact st.env.at_ j t o h1 h2
  · rcases set_cases h1 with ⟨e1, q1⟩ | ⟨e1, q1⟩ <;> rcases set_cases h2 with ⟨e2, q2⟩ | ⟨e2, q2⟩ <;> rcases set_cases h3 with ⟨e3, q3⟩ | ⟨e3, q3⟩ <;> rcases set_cases h4 with ⟨e4, q4⟩ | ⟨e4, q4⟩
    all_goals first
      | exact (e2 e1).elim
      | exact (e1 e2).elim
      | exact (e4 e3).elim
      | exact (e3 e4).elim
      | skip
    · rw [e1, e3]
    · rw [q1, q2] at w1; obtain ⟨_, _, _, _, _, fr⟩ := ow w1; exact (fr k u p q3 q4 w2).elim
    · rw [q3, q4] at w2; obtain ⟨_, _, _, _, _, fr⟩ := ow w2; exact (fr j t o q1 q2 w1).elim
    · exact st.env.inj j k t u o p a q1 q2 q3 q4 w1 w2
  · rcases set_cases h1 with ⟨e1, rfl⟩ | ⟨e1, h1⟩ <;> rcases set_cases h2 with ⟨e2, rfl⟩ | ⟨e2, h2⟩
    · obtain ⟨_, vs, _, hh, _, _⟩ := ow w; exact st.sto.notin hh fun _ z => by cases z
    · exact (e2 e1).elim
    · exact (e1 e2).elim
    · exact st.env.out j t o a h1 h2 w
  · rcases set_cases h1 with ⟨e1, rfl⟩ | ⟨e1, h1⟩ <;> rcases set_cases h2 with ⟨e2, rfl⟩ | ⟨e2, h2⟩
    · obtain ⟨_, _, _, _, m, _⟩ := ow w; exact m
    · exact (e2 e1).elim
    · exact (e1 e2).elim
    · exact st.own j t o a h1 h2 w
  · rcases set_cases h1 with ⟨e1, q⟩ | ⟨e1, q⟩
    · subst q; exact n.elim
    · rcases set_cases h2 with ⟨e2, _⟩ | ⟨e2, h2⟩
      · exact (e1 e2).elim
      · exact st.slf b hb j c fs a q h2
/-- a slot's own object is written -/
theorem St0.mut {i : Nat} {s t : Sl} {o : Option V} {a : Addr} {u u' : HO} (st : St0 Z B v S F ρ σ H) (hv : v[i]? = some s) (hs : σ[i]? = some o) (w : Own s o a) (hu : H a = some u) (nd : ∀ kv, u ≠ .dK kv) (ht : ∀ b, Own t o b → b = a) (hsf : ∀ c fs, t = .sf c fs → ∃ c' fs', s = .sf c' fs') (new : SlR Z F ρ (upd H a u') t o) :
    St0 Z B (setN v i t) S F ρ σ (upd H a u') := by
  rw [setN_eq]
  obtain ⟨_, h0, hf⟩ := (st.env.at_ i s o hv hs).own w
  have at_ : ∀ {j : Nat} {x : Sl} {p : Option V}, j ≠ i → v[j]? = some x → σ[j]? = some p → SlR Z F ρ (upd H a u') x p := by
    intro j x p hj h1 h2
    have ne : ∀ b, Own x p b → b ≠ a := fun b wb e => hj (st.env.inj j i x s p o a h1 h2 hv hs (e ▸ wb) w)
    have q := st.env.at_ j x p h1 h2
    cases x with
    | un => trivial
    | va d => exact q
    | ol l => obtain ⟨b, vs, rfl, g1, g2, g3⟩ := q; exact ⟨b, vs, rfl, by rw [upd_ne (ne b ⟨trivial, rfl⟩)]; exact g1, g2, g3⟩
    | sf c fs => obtain ⟨b, dx, vs, rfl, g1, g2, g3, g4⟩ := q; exact ⟨b, dx, vs, rfl, by rw [upd_ne (ne b ⟨trivial, rfl⟩)]; exact g1, g2, g3, g4⟩
  have ow : ∀ {j : Nat} {x : Sl} {p : Option V} {b : Addr}, (v.set i t)[j]? = some x → σ[j]? = some p → Own x p b → ∃ y, v[j]? = some y ∧ Own y p b := by
    intro j x p b h1 h2 wb
    rcases set_cases h1 with ⟨e, rfl⟩ | ⟨e, h1⟩
    · subst e
      rw [hs] at h2; cases h2
      obtain rfl := ht b wb
      exact ⟨s, hv, w⟩
    · exact ⟨x, h1, wb⟩
  refine ⟨⟨by rw [List.length_set]; exact st.env.len, fun j x p h1 h2 => ?_, fun j k x y p q b h1 h2 h3 h4 w1 w2 => ?_, fun j x p b h1 h2 wb => ?_⟩, st.sto.mut hu nd hf, fun b hb => ?_, fun j x p b h1 h2 wb => ?_, fun b hb j c fs a' h1 h2 => ?_⟩
  · rcases set_cases h1 with ⟨e, rfl⟩ | ⟨e, h1⟩
    · subst e; rw [hs] at h2; cases h2; exact new
    · exact at_ e h1 h2
  · obtain ⟨y1, g1, g2⟩ := ow h1 h2 w1
    obtain ⟨y2, g3, g4⟩ := ow h3 h4 w2
    exact st.env.inj j k y1 y2 p q b g1 h2 g3 h4 g2 g4
  · obtain ⟨y1, g1, g2⟩ := ow h1 h2 wb
    exact st.env.out j y1 p b g1 h2 g2
  · have e := st.ext b hb
    have m := st.own i s o a hv hs w b hb
    refine ⟨e.le, fun c x q h1 h2 => ?_, fun c q => ?_, e.new, e.pre⟩
    · rw [upd_ne (fun z => by subst z; rcases m with m | m; exact h2 m; rw [q] at m; cases m)]; exact e.keep c x q h1 h2
    · by_cases z : c = a
      · subst z; rw [upd_same] at q; cases q
      · rw [upd_ne z] at q; exact e.dom c q
  · obtain ⟨y1, g1, g2⟩ := ow h1 h2 wb
    exact st.own j y1 p b g1 h2 g2
  · rcases set_cases h1 with ⟨e, q⟩ | ⟨e, q⟩
    · obtain ⟨c', fs', rfl⟩ := hsf c fs q.symm
      subst e
      exact st.slf b hb j c' fs' a' hv h2
    · exact st.slf b hb j c fs a' q h2
/-- a list of one's own stands still from now on -/
theorem St0.frz {i : Nat} {l : List D} (st : St0 Z B v S F ρ σ H) (hv : getN v i = some (.ol l)) : ∃ F', St0 Z B (setN v i (.va (.lst l))) S F' ρ σ H := by
  obtain ⟨o, hs, a, vs, rfl, h1, h2, r⟩ := st.env.get hv
  rw [getN_eq] at hv
  have le : Same F (upd F a (.lst vs)) := fun b u q => by rw [upd_ne (ne_of_none q h2)]; exact q
  have mo : ∀ {l : List D} {ws : List V}, Reps Z F ρ l ws → Reps Z (upd F a (.lst vs)) ρ l ws := fun r => by
    have := Reps.mono (m := []) le r
    rwa [List.append_nil] at this
  have mo1 : ∀ {d : D} {x : V}, Rep Z F ρ d x → Rep Z (upd F a (.lst vs)) ρ d x := fun r => by
    have := Rep.mono (m := []) le r
    rwa [List.append_nil] at this
  have no : ∀ {j : Nat} {x : Sl} {p : Option V} {b : Addr}, j ≠ i → v[j]? = some x → σ[j]? = some p → Own x p b → b ≠ a := fun hj g1 g2 w e => hj (st.env.inj _ i _ _ _ _ a g1 g2 hv hs (e ▸ w) ⟨trivial, rfl⟩)
  refine ⟨upd F a (.lst vs), ?_⟩
  rw [setN_eq]
  have ow : ∀ {j : Nat} {x : Sl} {p : Option V} {b : Addr}, (v.set i (.va (.lst l)))[j]? = some x → Own x p b → j ≠ i ∧ v[j]? = some x := by
    intro j x p b g1 w
    rcases set_cases g1 with ⟨e, q⟩ | ⟨e, q⟩
    · subst q; exact w.1.elim
    · exact ⟨e, q⟩
  refine ⟨⟨by rw [List.length_set]; exact st.env.len, fun j x p g1 g2 => ?_, fun j k x y p q b g1 g2 g3 g4 w1 w2 => ?_, fun j x p b g1 g2 w => ?_⟩, ⟨fun b u q => ?_, st.sto.len, st.sto.nd, fun n kv b g1 g2 => ?_⟩, fun b hb => ?_, fun j x p b g1 g2 w => ?_, fun b hb j c fs a' g1 g2 => ?_⟩
  · rcases set_cases g1 with ⟨e, q⟩ | ⟨e, q⟩
    · subst e q
      rw [hs] at g2; cases g2
      exact ⟨_, rfl, .lst (.inl upd_same) (mo r)⟩
    · have z := st.env.at_ j x p q g2
      cases x with
      | un => trivial
      | va d => obtain ⟨y, rfl, ry⟩ := z; exact ⟨y, rfl, mo1 ry⟩
      | ol m => obtain ⟨b, ws, rfl, f1, f2, f3⟩ := z; exact ⟨b, ws, rfl, f1, by rw [upd_ne (no e q g2 ⟨trivial, rfl⟩)]; exact f2, mo f3⟩
      | sf c fs => obtain ⟨b, dx, ws, rfl, f1, f2, f3, f4⟩ := z; exact ⟨b, dx, ws, rfl, f1, f2, by rw [upd_ne (no e q g2 ⟨trivial, rfl⟩)]; exact f3, mo f4⟩
  · exact st.env.inj j k x y p q b (ow g1 w1).2 g2 (ow g3 w2).2 g4 w1 w2
  · exact st.env.out j x p b (ow g1 w).2 g2 w
  · by_cases z : b = a
    · subst z; rw [upd_same] at q; cases q; exact h1
    · rw [upd_ne z] at q; exact st.sto.le b u q
  · obtain ⟨f1, ws, f2, f3⟩ := st.sto.at_ n kv b g1 g2
    exact ⟨by rw [upd_ne (fun z => by subst z; rw [h1] at f2; cases f2)]; exact f1, ws, f2, mo f3⟩
  · have e := st.ext b hb
    refine ⟨e.le.trans le, e.keep, e.dom, fun c u q => ?_, e.pre⟩
    by_cases z : c = a
    · subst z
      rcases st.own i _ _ c hv hs ⟨trivial, rfl⟩ b hb with m | m
      · exact .inr (.inr m)
      · exact .inr (.inl m)
    · rw [upd_ne z] at q; exact e.new c u q
  · exact st.own j x p b (ow g1 w).2 g2 w
  · rcases set_cases g1 with ⟨e, q⟩ | ⟨e, q⟩
    · cases q
    · exact st.slf b hb j c fs a' q g2
/-- the lists of one's own, by their slots -/
def ownA (v : Env) (σ : L2.St) : Addr → Prop := fun a => ∃ (i : Nat) (s : Sl) (o : Option V), v[i]? = some s ∧ σ[i]? = some o ∧ Own s o a

/-! ### simple statements -/
theorem ss_frz {i : Nat} {ss : Sms} {sts : List Stmt} (h : PSs X sts (tS Z W (xss G ss))) : PSs X sts (tS Z W (xss G (.cons (.frz i) ss))) := h.imp fun E σ H ⟨B, v, S, F, ρ, s0, hp⟩ => by
  rw [xss, xs1] at hp
  cases q : getN v i with
  | none => rw [q] at hp; exact hp.elim
  | some s =>
    rw [q] at hp
    cases s with
    | ol l => obtain ⟨F', s1⟩ := s0.frz q; exact ⟨B, _, S, F', ρ, s1, hp⟩
    | _ => exact hp.elim
theorem ss_nil : PSs X [] (tS Z W (xss G .nil)) := pss_nil.imp fun E σ H ⟨B, v, S, F, ρ, s0, hp⟩ => by
  rw [xss] at hp; exact hp σ F ρ H s0
theorem ss_cons {s : Sm} {ss : Sms} {a : Stmt} {r : List Stmt} (h : PS X a (tS Z W (xs1 G s))) (hr : PSs X r (tS Z W (xss G ss))) : PSs X (a :: r) (tS Z W (xss G (.cons s ss))) := (pss_cons h hr).imp fun E σ H ⟨B, v, S, F, ρ, s0, hp⟩ => by
  refine ⟨B, v, S, F, ρ, s0, ?_⟩
  rw [xss] at hp
  cases q : xs1 G s v S with
  | ok a S1 =>
    rw [q] at hp
    cases a with
    | nx v1 => exact fun σ1 F1 ρ1 H1 s1 => ⟨B, v1, S1, F1, ρ1, s1, hp⟩
    | bk v1 => exact hp
    | ct v1 => exact hp
    | rt d => exact hp
  | ex c fs S1 => rw [q] at hp; exact hp
  | bad => rw [q] at hp; exact hp.elim
theorem ss_pass {pos} : PS X (.Pass pos) (tS Z W (xs1 G .pass)) := ps_pass.imp fun E σ H ⟨B, v, S, F, ρ, s0, hp⟩ => by rw [xs1] at hp; exact hp σ F ρ H s0
theorem ss_brk {pos} : PS X (.Break pos) (tS Z W (xs1 G .brk)) := ps_break.imp fun E σ H ⟨B, v, S, F, ρ, s0, hp⟩ => by rw [xs1] at hp; exact hp σ F ρ H s0
theorem ss_cnt {pos} : PS X (.Continue pos) (tS Z W (xs1 G .cnt)) := ps_continue.imp fun E σ H ⟨B, v, S, F, ρ, s0, hp⟩ => by rw [xs1] at hp; exact hp σ F ρ H s0
theorem ss_retN {pos} : PS X (.Return none pos) (tS Z W (xs1 G .retN)) := ps_retN.imp fun E σ H ⟨B, v, S, F, ρ, s0, hp⟩ => by rw [xs1] at hp; exact hp _ F ρ H s0.ext s0.sto .non
theorem ss_never {st : Stmt} : PS X st (tS Z W (xs1 G .never)) := (ps_never (st := st)).imp fun E σ H ⟨B, v, S, F, ρ, s0, hp⟩ => by rw [xs1] at hp; exact hp.elim
theorem ss_doc {x j pos pos'} {ss : Sms} {r : List Stmt} (h : PSs X r (tS Z W (xss G ss))) : PSs X (.Expr (.Constant (.str x) j pos) pos' :: r) (tS Z W (xss G ss)) := (pss_cons ps_doc h).imp fun E σ H q => q
theorem ss_ret {e : Ex} {a : Expr} {pos} (h : PE X a (tE Z W G e)) : PS X (.Return (some a) pos) (tS Z W (xs1 G (.ret e))) := (ps_ret h).imp fun E σ H q => by
  refine (tS.bind (P := pV Z) (f := ev G e) (k := fun d _ S => R.ok (Fl.rt d) S) (q.eq fun v S => by rw [xs1])).wk fun x H1 ⟨d, B, v1, S1, F1, ρ1, p, s1, q1⟩ => ?_
  exact q1 x F1 ρ1 H1 s1.ext s1.sto p
theorem ss_exp {e : Ex} {a : Expr} {pos} (h : PE X a (tE Z W G e)) (hs : swapsWith a none pos.line X.env = pure false) : PS X (.Expr a pos) (tS Z W (xs1 G (.exp e))) := (ps_expr h hs).imp fun E σ H q => by
  refine (tS.bind (P := pV Z) (f := ev G e) (k := fun _ v S => R.ok (Fl.nx v) S) (q.eq fun v S => by rw [xs1])).wk fun x H1 ⟨d, B, v1, S1, F1, ρ1, p, s1, q1⟩ => ?_
  exact q1 σ F1 ρ1 H1 s1
theorem ss_asg {i : Nat} {e : Ex} {st : Stmt} (h : PS X st (tAsg (tE Z W G e) (gName i))) : PS X st (tS Z W (xs1 G (.asg i e))) := h.imp fun E σ H q => by
  refine (tS.bind (P := pV Z) (f := ev G e) (k := fun d v S => R.ok (Fl.nx (setN v i (.va d))) S) (q.eq fun v S => by rw [xs1])).wk fun x H1 ⟨d, B, v1, S1, F1, ρ1, p, s1, q1⟩ => ?_
  exact q1 _ F1 ρ1 H1 (s1.put p)
theorem St0.fresh (st : St0 Z B v S F ρ σ H) {F1 H1 : Hp} {ρ1 : List Addr} (e : Ext nO F ρ H F1 ρ1 H1) {l : List D} {x : V} (p : ∃ a vs, x = .ref a ∧ H1 a = some (.lst vs) ∧ F1 a = none ∧ H a = none ∧ Reps Z F1 ρ1 l vs) : SlN Z B F1 ρ1 v σ H1 (.ol l) x := by
  obtain ⟨a, vs, rfl, h1, h2, h3, r⟩ := p
  refine ⟨a, vs, rfl, h1, h2, r, fun b hb => .inr ((st.ext b hb).dom a h3), fun j t o g1 g2 w => ?_⟩
  obtain ⟨u, hu, _⟩ := (st.env.at_ j t o g1 g2).own w
  rw [h3] at hu; cases hu
theorem ss_own {i : Nat} {e : Ex} {st : Stmt} (hf : isFresh e = true) (h : PS X st (tAsg (tF Z W (ev G e)) (gName i))) : PS X st (tS Z W (xs1 G (.own i e))) := h.imp fun E σ H ⟨B, v, S, F, ρ, s0, hp⟩ => by
  rw [xs1] at hp
  refine ⟨F, ρ, v, S, s0.env, s0.sto, (PostS.bind (P := pF Z H) hp s0).mono fun d x F1 ρ1 H1 e1 p k => ?_⟩
  obtain ⟨d, F2, ρ2, S2, e2, ⟨l, a, vs, rfl, rfl, p1, p2, p3, p4⟩, s2, q⟩ := k x p
  have q : PostS Z W B (match slotOf true e (.lst l) with | some s => R.ok (Fl.nx (setN v i s)) S2 | none => .bad) E := q
  unfold slotOf at q
  simp only [hf, if_true] at q
  exact q _ _ _ _ (s2.put (s0.fresh e2 ⟨a, vs, rfl, p1, p2, p3, p4⟩))
theorem bindPt_get : ∀ {p : Pt} {d : D} {v w : Env}, bindPt p d v = some w → ∀ j s, w[j]? = some s → (∃ d, s = .va d) ∨ (j ∉ slotsP p ∧ v[j]? = some s)
  | .nm i, d, v, w, h, j, s, hj => by
    cases h
    rw [setN_eq] at hj
    rcases set_cases hj with ⟨_, q⟩ | ⟨e, q⟩
    · exact .inl ⟨_, q⟩
    · exact .inr ⟨by simpa [slotsP] using e, q⟩
  | .tp is, d, v, w, h, j, s, hj => by
    have key : ∀ (is : List Nat) (l : List D) (v w : Env), setAll is l v = some w → ∀ j s, w[j]? = some s → (∃ d, s = .va d) ∨ (j ∉ is ∧ v[j]? = some s) := by
      intro is
      induction is with
      | nil => intro l v w h j s hj; cases l with
        | nil => cases h; exact .inr ⟨by simp, hj⟩
        | cons _ _ => cases h
      | cons i is ih => intro l v w h j s hj; cases l with
        | nil => cases h
        | cons d l =>
          rcases ih l _ w h j s hj with q | ⟨q1, q2⟩
          · exact .inl q
          · rw [setN_eq] at q2
            rcases set_cases q2 with ⟨_, z⟩ | ⟨z1, z2⟩
            · exact .inl ⟨_, z⟩
            · exact .inr ⟨by simp [z1, q1], z2⟩
    cases d with
    | tup l => exact key is l v w h j s hj
    | _ => cases h
/-- a target's store -/
theorem St0.bindP {p : Pt} {g : TG} {d : D} {x : V} (hg : StP Z p g) (st : St0 Z B v S F ρ σ H) (hb : bindPt p d v = some w) (r : Rep Z F ρ d x) {Q : L2.St → Hp → Prop} (k : ∀ σ', St0 Z B w S F ρ σ' H → Q σ' H) : g x σ H Q := by
  refine hg d v w x σ F H ρ S Q hb r st.env st.sto fun σ' he hbut => k σ' ⟨he, st.sto, st.ext, fun j s o a h1 h2 wn => ?_, fun b hb' j c fs a h1 h2 => ?_⟩
  · rcases bindPt_get hb j s h1 with ⟨d, rfl⟩ | ⟨q1, q2⟩
    · exact wn.1.elim
    · exact st.own j s o a q2 (by rw [← hbut.2 j q1]; exact h2) wn
  · rcases bindPt_get hb j _ h1 with ⟨d, q⟩ | ⟨q1, q2⟩
    · cases q
    · exact st.slf b hb' j c fs a q2 (by rw [← hbut.2 j q1]; exact h2)
theorem ss_asgT {is : List Nat} {e : Ex} {st : Stmt} {g : TG} (hg : StP Z (.tp is) g) (h : PS X st (tAsg (tE Z W G e) g)) : PS X st (tS Z W (xs1 G (.asgT is e))) := h.imp fun E σ H q => by
  refine (tS.bind (P := pV Z) (f := ev G e) (k := fun d v S => match bindPt (.tp is) d v with | some w => R.ok (Fl.nx w) S | none => .bad) (q.eq fun v S => by rw [xs1] <;> rfl)).wk fun x H1 ⟨d, B, v1, S1, F1, ρ1, p, s1, q1⟩ => ?_
  cases hb : bindPt (.tp is) d v1 with
  | none => rw [hb] at q1; exact q1.elim
  | some w => rw [hb] at q1; exact s1.bindP hg hb p fun σ' s2 => q1 σ' F1 ρ1 H1 s2
theorem ss_iff {c : Ex} {a b : Sms} {x : Expr} {sa sb : List Stmt} {pos} (hc : PT X x (tT Z W G c)) (ha : PSs X sa (tS Z W (xss G a))) (hb : PSs X sb (tS Z W (xss G b))) : PS X (.If x sa sb pos) (tS Z W (xs1 G (.iff c a b))) := (ps_if hc ha hb).imp fun E σ H q => by
  refine (tS.bind (P := pEq) (f := fun v S => (ev G c v S).bind asB) (k := fun r v S => if r = true then xss G a v S else xss G b v S) (q.eq fun v S => by rw [xs1, R.bind_assoc] <;> rfl)).wk fun x H1 ⟨d, B, v1, S1, F1, ρ1, p, s1, q1⟩ => ?_
  obtain rfl : d = x := p
  cases d with
  | true => exact ⟨B, v1, S1, F1, ρ1, s1, q1⟩
  | false => exact ⟨B, v1, S1, F1, ρ1, s1, q1⟩
/-! ### loops -/
theorem ss_whl {c : Ex} {b : Sms} {x : Expr} {body : List Stmt} {pos} (hp : PassesOwn (model X.prog X.w) X.A X.env X.xe) (hc : PT X x (tT Z W G c)) (hb : PSs X body (tS Z W (xss G b))) : PS X (.While x body [] pos) (tS Z W (xs1 G (.whl c b))) := (ps_while hp hc hb).imp fun E σ H ⟨B, v, S, F, ρ, s0, hq⟩ => by
  rw [xs1] at hq
  refine ⟨fun m σ H => ∃ v S F ρ, St0 Z B v S F ρ σ H ∧ PostS Z W B (whlL (fun v S => (ev G c v S).bind fun x S => asB x S) (fun v S => xss G b v S) m v S) E, ⟨G.fuel, v, S, F, ρ, s0, hq⟩, ?_⟩
  clear hq s0 v S F ρ
  rintro m σ H ⟨v, S, F, ρ, s0, hq⟩
  cases m with
  | zero => exact hq.elim
  | succ m =>
    unfold whlL at hq
    refine ⟨F, ρ, v, S, s0.env, s0.sto, (PostS.bind (P := pEq) hq s0).mono fun d x F1 ρ1 H1 e1 p k => ?_⟩
    obtain ⟨r, F2, ρ2, S2, e2, p2, s2, q⟩ := k x p
    obtain rfl : r = x := p2
    cases r with
    | false => simp only [Bool.false_eq_true, if_false] at q ⊢; exact q σ _ _ _ s2
    | true =>
      simp only [if_true] at q ⊢
      refine ⟨fun σ H => ∃ v S F ρ, St0 Z B v S F ρ σ H ∧ PostS Z W B (whlL (fun v S => (ev G c v S).bind fun x S => asB x S) (fun v S => xss G b v S) m v S) E, fun σ' H' n => ⟨m, Nat.lt_succ_self m, n⟩, B, v, S2, F2, ρ2, s2, ?_⟩
      exact q.body fun v S σ F ρ H st hk => ⟨v, S, F, ρ, st, hk⟩
theorem ss_for {p : Pt} {it : Wk} {b : Sms} {tg iter : Expr} {body : List Stmt} {pos} {g : TG} (hp : PassesOwn (model X.prog X.w) X.A X.env X.xe) (hc : X.calm = true) (hi : ∀ O, PI X tg iter (tI Z W G O it)) (hpg : PG X tg g) (hg : StP Z p g) (hb : PSs X body (tS Z W (xss G b)))
    (hs : ∀ x, foldedSetIterable iter X.env x = pure x) : PS X (.For tg iter body [] pos) (tS Z W (xs1 G (.for_ p it b))) := by
  have hio : PI X tg iter (fun σ H R => ∃ O, tI Z W G O it σ H R) := ⟨fun pins s σ H R I ⟨O, h⟩ => (hi O).run pins s σ H R I h⟩
  refine (ps_for hp hc hio hpg hb hs).imp fun E σ H ⟨B, v, S, F, ρ, s0, hq⟩ => ?_
  rw [xs1_for] at hq
  refine ⟨ownA v σ, F, ρ, v, S, s0.env, s0.sto, (PostS.bind (P := pI Z (ownA v σ)) hq s0).mono fun l J F1 ρ1 H1 e1 p1 k => ?_⟩
  obtain ⟨l, F1, ρ1, S1, e1, ⟨Gd, Y, w, hGd, hY⟩, s1, q1⟩ := k J p1
  refine for_it w (fun i σ' H' => ∃ v' S' F' ρ', St0 Z (⟨ownA v σ, F1, ρ1, H1, fun _ => True⟩ :: B) v' S' F' ρ' σ' H' ∧ PostS Z W B (forL (forF G p b) (l.drop i) v' S') E) ?_ ?_ ?_ ?_
  · refine ⟨v, S1, F1, ρ1, ⟨s1.env, s1.sto, fun c hc => ?_, fun i s o a h1 h2 h3 c hc => ?_, fun c hc => ?_⟩, by simpa using q1⟩
    · rcases List.mem_cons.mp hc with rfl | hc
      · exact .refl
      · exact s1.ext c hc
    · rcases List.mem_cons.mp hc with rfl | hc
      · exact .inl ⟨i, s, o, h1, h2, h3⟩
      · exact s1.own i s o a h1 h2 h3 c hc
    · rcases List.mem_cons.mp hc with rfl | hc
      · exact fun _ _ _ _ _ _ => trivial
      · exact s1.slf c hc
  · rintro i σ' H' _ ⟨v', S', F', ρ', st, _⟩
    exact hGd _ _ _ _ (st.ext _ List.mem_cons_self) st.sto
  · rintro i x σ' H' H'' hi' ⟨v', S', F', ρ', st, hf⟩ y
    obtain ⟨F2, d, e2, s2, hd, rd⟩ := hY i H' x H'' F' ρ' S' (st.ext _ List.mem_cons_self) st.sto hi' y
    have hdr : l.drop i = d :: l.drop (i + 1) := by
      rw [List.drop_eq_getElem_cons hi']
      rw [List.getElem?_eq_getElem hi'] at hd
      rw [Option.some.inj hd]
    rw [hdr] at hf
    have st2 := st.step e2 s2
    unfold forL at hf
    cases hbp : bindPt p d v' with
    | none => simp only [forF, hbp] at hf; exact hf.elim
    | some w =>
      simp only [forF, hbp] at hf
      refine st2.bindP hg hbp rd fun σ2 st3 => ⟨_, w, S', F2, ρ', st3, ?_⟩
      exact hf.bodyB fun v S σ F ρ H st hk => ⟨v, S, F, ρ, st, hk⟩
  · rintro σ' H' ⟨v', S', F', ρ', st, hf⟩
    rw [List.drop_length] at hf
    exact hf σ' F' ρ' H' st.drop
end
end Mi

set_option Elab.async false
set_option linter.all false
set_option maxRecDepth 100000
set_option maxHeartbeats 4000000
/-! Mi, part 14: lists of one's own are written; pairs; fields of the object that __init__ fills. -/
namespace Mi
open PySem PySem.Spec PyProof.Rows L2
section
variable {Z : Ci} {W : WX} {G : Ga} {X : Cx} {B : List Bs} {v w : Env} {S S1 : Sto} {F F1 : Hp} {ρ ρ1 : List Addr} {σ : L2.St} {H H1 : Hp} {E : Ends} {α β : Type}
/-- x.append(e) -/
theorem ss_app {i : Nat} {e : Ex} {st : Stmt} {K : PySem.W.Frag} (h : PS X st (tDrop (tBM K "list" rAppend (tVar i) (fun σ H Q => tE Z W G e σ H fun x H1 => Q [x] H1)))) : PS X st (tS Z W (xs1 G (.app i e))) := h.imp fun E σ H ⟨B, v, S, F, ρ, s0, hp⟩ => by
  rw [xs1] at hp
  cases q : getN v i with
  | none => rw [q] at hp; exact hp.elim
  | some s =>
    rw [q] at hp
    cases s with
    | ol l =>
      obtain ⟨o, hs, a, vs, rfl, h1, h2, r⟩ := s0.env.get q
      refine ⟨.ref a, hs, .inl ⟨rfl, vs, .inl (.inl h1)⟩, F, ρ, v, S, s0.env, s0.sto, (PostS.bind (P := pV Z) hp s0).mono fun d x F1 ρ1 H1 e1 p k => ?_⟩
      obtain ⟨d, F2, ρ2, S2, e2, p2, s2, q2⟩ := k x p
      by_cases z : l.length < SZ
      · rw [if_pos z] at q2
        obtain ⟨o', hs', a', vs', eo, h1', h2', r'⟩ := s2.env.get q
        rw [hs] at hs'; cases hs'; cases eo
        rw [getN_eq] at q
        exact ⟨a, vs', x, rfl, rfl, h1', by rw [← r'.len, ← sz_line]; exact z, q2 σ F2 ρ2 _ (s2.mut q hs ⟨trivial, rfl⟩ h1' (fun _ z => by cases z) (fun b wb => by have := wb.2; cases this; rfl) (fun _ _ z => by cases z) ⟨a, _, rfl, upd_same, h2', r'.app (.one p2)⟩)⟩
      · rw [if_neg z] at q2; exact q2.elim
    | _ => exact hp.elim
/-- x.append(y.pop(e)) -/
theorem ss_appPop {i j : Nat} {e : Ex} {st : Stmt} {K K' : PySem.W.Frag} (h : PS X st (tDrop (tBM K "list" rAppend (tVar i) (fun σ H Q => tBM K' "list" rPopAt (tVar j) (fun σ H Q => tE Z W G e σ H fun x H1 => Q [x] H1) σ H fun x H1 => Q [x] H1)))) : PS X st (tS Z W (xs1 G (.appPop i j e))) := h.imp fun E σ H ⟨B, v, S, F, ρ, s0, hp⟩ => by
  rw [xs1] at hp
  cases q : getN v i with
  | none => rw [q] at hp; exact hp.elim
  | some s =>
    rw [q] at hp
    cases s with
    | ol l =>
      cases q' : getN v j with
      | none => rw [q'] at hp; exact hp.elim
      | some s' =>
        rw [q'] at hp
        cases s' with
        | ol m =>
          obtain ⟨o, hs, a, vs, rfl, h1, h2, r⟩ := s0.env.get q
          obtain ⟨o', hs', a', vs', rfl, h1', h2', r'⟩ := s0.env.get q'
          refine ⟨.ref a, hs, .inl ⟨rfl, vs, .inl (.inl h1)⟩, .ref a', hs', .inl ⟨rfl, vs', .inl (.inl h1')⟩, F, ρ, v, S, s0.env, s0.sto, (PostS.bind (P := pV Z) hp s0).mono fun d x F1 ρ1 H1 e1 p k => ?_⟩
          clear h1 h2 r h1' h2' r' vs vs'
          obtain ⟨d, F2, ρ2, S2, e2, p2, s2, q2⟩ := k x p
          obtain ⟨o, hs2, b, vs, eo, h1, h2, r⟩ := s2.env.get q
          rw [hs] at hs2; cases hs2; cases eo
          obtain ⟨o, hs2, b, vs', eo, h1', h2', r'⟩ := s2.env.get q'
          rw [hs'] at hs2; cases hs2; cases eo
          cases p2 with
          | @int k =>
            simp only at q2
            cases hn : ixN m.length k with
            | none => rw [hn] at q2; exact q2.elim
            | some n =>
              simp only [hn] at q2
              cases hg : getN m n with
              | none => rw [hg] at q2; exact q2.elim
              | some d =>
                simp only [hg] at q2
                split at q2
                · rename_i z
                  rw [getN_eq] at hg q q'
                  obtain ⟨y, hy, ry⟩ := r'.get hg
                  have hk : seqIndex? k vs'.length = some n := by
                    rw [← r'.len]
                    unfold ixN at hn
                    unfold seqIndex?
                    have hl := m.length
                    split at hn
                    · split at hn
                      · cases hn; simp [*] <;> omega
                      · cases hn
                    · split at hn
                      · cases hn; simp [*] <;> omega
                      · cases hn
                  have t1 := s2.mut q' hs' ⟨trivial, rfl⟩ h1' (fun _ z => by cases z) (fun b wb => by have := wb.2; cases this; rfl) (fun _ _ z => by cases z) (t := .ol (m.eraseIdx n)) (u' := .lst (vs'.eraseIdx n)) ⟨a', _, rfl, upd_same, h2', r'.eraseIdx n⟩
                  have qi : (setN v j (.ol (m.eraseIdx n)))[i]? = some (.ol l) := by rw [setN_eq, List.getElem?_set_ne (Ne.symm z.1)]; exact q
                  have ne : a ≠ a' := fun e => z.1 (s2.env.inj i j _ _ _ _ a q hs q' hs' ⟨trivial, rfl⟩ ⟨trivial, by rw [e]⟩)
                  have h3 : upd H1 a' (.lst (vs'.eraseIdx n)) a = some (.lst vs) := by rw [upd_ne ne]; exact h1
                  refine ⟨a', vs', k, n, y, rfl, rfl, h1', by omega, by omega, hk, hy, a, vs, y, rfl, rfl, h3, by rw [← r.len, ← sz_line]; exact z.2.1, ?_⟩
                  exact q2 σ F2 ρ2 _ (t1.mut qi hs ⟨trivial, rfl⟩ h3 (fun _ z => by cases z) (fun b wb => by have := wb.2; cases this; rfl) (fun _ _ z => by cases z) ⟨a, _, rfl, upd_same, h2, r.app (.one ry)⟩)
                · exact q2.elim
          | _ => exact q2.elim
        | _ => exact hp.elim
    | _ => exact hp.elim
/-- x[k] = e -/
theorem ss_setI {i : Nat} {k e : Ex} {st : Stmt} (h : PS X st (tAsg (tE Z W G e) (gSub (tVar i) (tE Z W G k) rSetL))) : PS X st (tS Z W (xs1 G (.setI i k e))) := h.imp fun E σ H ⟨B, v, S, F, ρ, s0, hp⟩ => by
  rw [xs1] at hp
  cases q : getN v i with
  | none => rw [q] at hp; exact hp.elim
  | some s =>
    rw [q] at hp
    cases s with
    | ol l =>
      obtain ⟨o, hs, a, vs, rfl, h1, h2, r⟩ := s0.env.get q
      refine ⟨F, ρ, v, S, s0.env, s0.sto, (PostS.bind (P := pV Z) hp s0).mono fun d x F1 ρ1 H1 e1 p kk => ?_⟩
      obtain ⟨d, F2, ρ2, S2, e2, p2, s2, q2⟩ := kk x p
      refine ⟨.ref a, hs, F2, ρ2, v, S2, s2.env, s2.sto, (PostS.bind (P := pV Z) q2 s2).mono fun dk y F3 ρ3 H3 e3 p3 k3 => ?_⟩
      obtain ⟨dk, F4, ρ4, S4, e4, p4, s4, q4⟩ := k3 y p3
      clear h1 h2 r vs
      obtain ⟨o, hs2, b, vs, eo, h1, h2, r⟩ := s4.env.get q
      rw [hs] at hs2; cases hs2; cases eo
      cases p4 with
      | @int j =>
        simp only at q4
        cases hn : ixN l.length j with
        | none => rw [hn] at q4; exact q4.elim
        | some n =>
          simp only [hn] at q4
          rw [getN_eq] at q
          refine ⟨a, vs, j, n, rfl, rfl, h1, by rw [← r.len]; exact hn, ?_⟩
          exact q4 σ F4 ρ4 _ (s4.mut q hs ⟨trivial, rfl⟩ h1 (fun _ z => by cases z) (fun b wb => by have := wb.2; cases this; rfl) (fun _ _ z => by cases z) ⟨a, _, rfl, upd_same, h2, by rw [setN_eq]; exact r.set n (e4.rep p2)⟩)
      | _ => exact q4.elim
    | _ => exact hp.elim
end
end Mi

set_option Elab.async false
set_option linter.all false
set_option maxRecDepth 100000
set_option maxHeartbeats 4000000
/-! Mi, part 15: fields of the object that __init__ fills; pairs; comprehensions that are stored. -/
namespace Mi
open PySem PySem.Spec PyProof.Rows L2
section
variable {Z : Ci} {W : WX} {G : Ga} {X : Cx} {B : List Bs} {v w : Env} {S S1 : Sto} {F F1 : Hp} {ρ ρ1 : List Addr} {σ : L2.St} {H H1 : Hp} {E : Ends} {α β : Type}
theorem putF_end {f : Str} {y : V} : ∀ {ns : List Str} {vs : List V}, ns.Nodup → ns[vs.length]? = some f → putF f y (ns.zip vs) = ns.zip (vs ++ [y])
  | [], vs, _, h => by simp at h
  | g :: ns, [], nd, h => by
    have h : g = f := by simpa using h
    subst h
    simp [putF]
  | g :: ns, x :: vs, nd, h => by
    have h : ns[vs.length]? = some f := by simpa using h
    have nd := List.nodup_cons.mp nd
    have ne : g ≠ f := fun e => by subst e; exact nd.1 (List.mem_of_getElem? h)
    show putF f y ((g, x) :: ns.zip vs) = (g, x) :: ns.zip (vs ++ [y])
    unfold putF
    rw [if_neg ne, putF_end nd.2 h]
theorem ClsF.names_nodup {nm : Nat → Str} {na c : Nat} {k : Cl} (h : ClsF X Z nm na c k) : (Z.cn c).Nodup := by
  rw [h.names]
  refine List.pairwise_map.mpr (List.Pairwise.imp_of_mem (fun {a b} ha hb ne e => ne ?_) h.nd)
  exact (h.inj b a (h.lt b hb) ha e)
/-- self.f = e -/
theorem ss_sfl {nm : Nat → Str} {na : Nat} {i f : Nat} {e : Ex} {st : Stmt} (hc : ∀ c k, G.cls c = some k → ClsF X Z nm na c k) (h : PS X st (sFld X.K (tVar i) (tE Z W G e) (nm f))) : PS X st (tS Z W (xs1 G (.sfl i f e))) := h.imp fun E σ H ⟨B, v, S, F, ρ, s0, hp⟩ => by
  rw [xs1] at hp
  cases q : getN v i with
  | none => rw [q] at hp; exact hp.elim
  | some s =>
    rw [q] at hp
    cases s with
    | sf c fs =>
      refine ⟨F, ρ, v, S, s0.env, s0.sto, (PostS.bind (P := pV Z) hp s0).mono fun d x F1 ρ1 H1 e1 p k => ?_⟩
      obtain ⟨d, F2, ρ2, S2, e2, p2, s2, q2⟩ := k x p
      obtain ⟨o, hs, a, dx, vs, rfl, h1, hl, h2, r⟩ := s2.env.get q
      refine ⟨.ref a, hs, a, Z.ca c, dx, _, rfl, h1, ?_⟩
      cases ec : G.cls c with
      | none => rw [ec] at q2; exact q2.elim
      | some kc =>
        have K := hc c kc ec
        simp only [ec, Option.bind_some] at q2
        cases eg : getN kc.at_ fs.length with
        | none => rw [eg] at q2; exact q2.elim
        | some g =>
          simp only [eg] at q2
          split at q2
          · rename_i z
            obtain ⟨rfl, z⟩ := z
            rw [getN_eq] at eg q
            have mg : g ∈ kc.at_ := List.mem_of_getElem? eg
            have hn : (Z.cn c)[vs.length]? = some (nm g) := by rw [K.names, List.getElem?_map, ← r.len, eg]; rfl
            have hlt : vs.length < (Z.cn c).length := (List.getElem?_eq_some_iff.mp hn).1
            refine ⟨K.cls, K.no g mg, ?_, ?_⟩
            · rw [List.length_zip, ← r.len]; omega
            · rw [putF_end K.names_nodup hn]
              exact q2 σ F2 ρ2 _ (s2.mut q hs ⟨trivial, rfl⟩ h1 (fun _ z => by cases z) (fun b wb => by have := wb.2; cases this; rfl) (fun _ _ z => ⟨_, _, rfl⟩) ⟨a, dx, _, rfl, upd_same, by rw [List.length_append]; exact hlt, h2, r.app (.one p2)⟩)
          · exact q2.elim
    | _ => exact hp.elim
/-- an operand of a pair: a value, a list that is new -/
def tO (Z : Ci) (W : WX) (G : Ga) (o : Bool) (e : Ex) : TE := match o with
  | false => tE Z W G e
  | true => tF Z W (ev G e)
theorem pF.ext {F0 H0 : Hp} {d : D} {x : V} (e : Ext nO F ρ H F1 ρ1 H1) (s : StoR Z F ρ S H) (p : pF Z H0 d x F ρ H) : pF Z H0 d x F1 ρ1 H1 := by
  obtain ⟨l, a, vs, rfl, rfl, h1, h2, h3, r⟩ := p
  refine ⟨l, a, vs, rfl, rfl, e.keep _ _ h1 (s.notin h1 fun _ z => by cases z) (fun q => q), ?_, h3, e.reps r⟩
  cases z : F1 a with
  | none => rfl
  | some u =>
    rcases e.new a u z with q | q | q
    · rw [h2] at q; cases q
    · rw [h1] at q; cases q
    · exact q.elim
def pO (Z : Ci) (o : Bool) (H0 : Hp) : D → V → Hp → List Addr → Hp → Prop := match o with
  | false => pV Z
  | true => pF Z H0
theorem pO.ext {o : Bool} {H0 : Hp} {d : D} {x : V} (e : Ext nO F ρ H F1 ρ1 H1) (s : StoR Z F ρ S H) (p : pO Z o H0 d x F ρ H) : pO Z o H0 d x F1 ρ1 H1 := by
  cases o with
  | false => exact e.rep p
  | true => exact pF.ext (F0 := F) e s p
theorem slN_of {o : Bool} {e : Ex} {d : D} {s : Sl} {x : V} {F0 H0 : Hp} {ρ0 : List Addr} {S0 : Sto} (st : St0 Z B v S0 F0 ρ0 σ H0) (ex : Ext nO F0 ρ0 H0 F ρ H) (hs : slotOf o e d = some s) (p : pO Z o H0 d x F ρ H) : SlN Z B F ρ v σ H s x := by
  cases o with
  | false => cases hs; exact p
  | true =>
    obtain ⟨l, a, vs, rfl, rfl, h1, h2, h3, r⟩ := p
    unfold slotOf at hs
    simp only at hs
    split at hs
    · cases hs
      exact st.fresh ex ⟨a, vs, rfl, h1, h2, h3, r⟩
    · cases hs
theorem tO_of {o : Bool} {e : Ex} {Q : VK} (st : St0 Z B v S F ρ σ H) (h : PostA Z W (ev G e v S) (pO Z o H) F ρ σ H Q) : tO Z W G o e σ H Q := by
  cases o with
  | false => exact ⟨F, ρ, v, S, st.env, st.sto, h⟩
  | true => exact ⟨F, ρ, v, S, st.env, st.sto, h⟩
theorem ss_par {i j : Nat} {oi oj : Bool} {a b : Ex} {st : Stmt} (hij : i ≠ j) (h : PS X st (tPar i j (fun σ H Q => tO Z W G oi a σ H fun x H1 => tO Z W G oj b σ H1 fun y H2 => Q [x, y] H2))) : PS X st (tS Z W (xs1 G (.par i oi a j oj b))) := h.imp fun E σ H ⟨B, v, S, F, ρ, s0, hp⟩ => by
  rw [xs1] at hp
  refine tO_of s0 ((PostS.bind (P := pO Z oi H) hp s0).mono fun d x F1 ρ1 H1 e1 p k => ?_)
  obtain ⟨d, F1, ρ1, S1, e1, p1, s1, q1⟩ := k x p
  refine tO_of s1 ((PostS.bind (P := pO Z oj H1) q1 s1).mono fun d2 y F2 ρ2 H2 e2 p2 k2 => ?_)
  obtain ⟨d2, F2, ρ2, S2, e2, p2, s2, q2⟩ := k2 y p2
  cases h1 : slotOf oi a d with
  | none => simp only [h1] at q2; exact q2.elim
  | some t1 =>
    cases h2 : slotOf oj b d2 with
    | none => simp only [h1, h2] at q2; exact q2.elim
    | some t2 =>
      simp only [h1, h2] at q2
      have n1 := slN_of s0 (e1.trans e2) h1 (pO.ext e2 s1.sto p1)
      have n2 := slN_of s1 e2 h2 p2
      have st1 := s2.put (i := i) n1
      refine ⟨x, y, rfl, q2 _ F2 ρ2 H2 (st1.put ?_)⟩
      -- the second is not the first's
      cases t2 with
      | va d => exact n2
      | un => exact n2.elim
      | sf c fs => exact n2.elim
      | ol l =>
        obtain ⟨a2, vs, rfl, g1, g2, g3, g4, g5⟩ := n2
        refine ⟨a2, vs, rfl, g1, g2, g3, g4, fun k t o h3 h4 w => ?_⟩
        rw [setN_eq] at h3
        rcases set_cases h3 with ⟨e3, rfl⟩ | ⟨e3, h3⟩ <;> rcases set_cases h4 with ⟨e4, rfl⟩ | ⟨e4, h4⟩
        · -- the first, made ahead: it was there when the second was made
          cases t with
          | ol l1 =>
            cases oi with
            | false => cases h1
            | true =>
              obtain ⟨l1', a1, vs1, rfl, rfl, f1, f2, f3, f4⟩ := p1
              have := w.2; cases this
              cases oj with
              | false => cases h2
              | true =>
                obtain ⟨l2', a2', vs2, _, ea, _, _, f5, _⟩ := p2
                cases ea
                rw [f1] at f5; cases f5
          | va d => exact w.1
          | un => exact w.1
          | sf c fs => exact n1.elim
        · exact e4 e3
        · exact e3 e4
        · exact g5 k t o h3 h4 w
/-- x = [..] on one line -/
theorem sa_comp {e : Ex} {own : List Nat} {p : Pt} {it : Wk} {c : Exo} {elt tg iter : Expr} {ifs : List Expr} {scope : Scope} {ow : List (Str × Nat)} {pos spos py : Pos} {g : TG} {i : Nat} {y : Str} (hc : X.calm = true) (hN : X.N.Nodup) (hy : X.N[i]? = some y) (hyl : X.env.scope.names.lookup y = some .local)
    (hsw : swapsWith (.ListComp elt [⟨tg, iter, ifs, 0⟩] scope pos) (some (.Name y py)) spos.line X.env = pure true) (hi : PI X tg iter (tI Z W G nO it)) (ok : BlkOk X.N X.env.scope scope ow)
    (ho : ow.map (·.2) = own) (hp : ∀ i ∈ slotsP p, i ∈ own)
    (hg : ∀ (s : Shared) (H : Hp) (C : Addr) (cl : List (Str × Addr)) (fp : List Addr), PG (X.blk s H scope (compEnvC scope cl C X.env) fp) tg g)
    (ht : ∀ (s : Shared) (H : Hp) (C : Addr) (cl : List (Str × Addr)) (fp : List Addr), OkC (X.blk s H scope (compEnvC scope cl C X.env) fp) Z W0 G c ifs)
    (he : ∀ (s : Shared) (H : Hp) (C : Addr) (cl : List (Str × Addr)) (fp : List Addr), PE (X.blk s H scope (compEnvC scope cl C X.env) fp) elt (tE Z W0 G e)) (hst : StP Z p g) (hs : ∀ x, foldedSetIterable iter X.env x = pure x) :
    PS X (.Assign [.Name y py] (.ListComp elt [⟨tg, iter, ifs, 0⟩] scope pos) spos) (tAsg (tF Z W (ev G (.comp e own p it c))) (gName i)) :=
  (ps_setLc hc hN hy hyl hsw hi ok hg (fun s H C cl fp => pts_of (ht s H C cl fp)) he hs).imp fun E σ H q => by
    subst ho
    exact tLc_of hp hst q
end
end Mi

set_option Elab.async false
set_option linter.all false
set_option maxRecDepth 100000
set_option maxHeartbeats 4000000
/-! Mi, part 16: operators of one's own classes. -/
namespace Mi
open PySem PySem.Spec PyProof.Rows L2 PySem.W
section
variable {prog : Program} {w : World} {A : Around} {E : Value → Shared → Prop} {s : Shared} {K : PySem.W.Frag} {x y C C' L f f' : Addr} {ox oy : Obj} {od od' : Option Obj}
/-- x op y, x and y of two classes of one's own, x's own def takes y -/
theorem bin_other {op : Operator} {rc rc' : Option Value} {Q : Value → Shared → Prop} (X : K.In s.heap) (I : InstAt s.heap x ox C od) (I' : InstAt s.heap y oy C' od') (hne : C ≠ C') (hc : selfFirst K C = true) (hc' : selfFirst K C' = true)
    (hs : findIn K (.ref C) (PySem.dunder op.info.2) = some (some (.ref f))) (hf : isFn K (.ref f) = true) (hr : findIn K (.ref C) (dunderR op.info.2) = some rc) (hp : rc = none ∨ ∃ g : Addr, rc = some (.ref g))
    (hs' : findIn K (.ref C') (PySem.dunder op.info.2) = some (some (.ref f'))) (hr' : findIn K (.ref C') (dunderR op.info.2) = some rc') (hp' : rc' = none ∨ ∃ g : Addr, rc' = some (.ref g)) (hsub : subIn K (.ref C') (.ref C) = some false)
    (h : wpAny (model prog w) A (call (.ref f) [.ref x, .ref y]) (PySem.W.CmpBack Q) E s) : wpAny (model prog w) A (binaryOp op (.ref x) (.ref y)) Q E s := by
  obtain ⟨cd, rest, hcd, hm⟩ := ksp_first hc
  obtain ⟨cd', rest', hcd', hm'⟩ := ksp_first hc'
  rcases hi : op.info with ⟨sym, nm'⟩
  rw [hi] at hs hr hs' hr'
  dsimp only at hs hr hs' hr'
  have one := ksp_try X I hs hf h
  obtain ⟨hh, g, d, tt, os⟩ := s
  have L1 : Looks (model prog w) hh (typeOf (.ref x)) (.ref C) := I.type
  have L2 : Looks (model prog w) hh (typeOf (.ref y)) (.ref C') := I'.type
  have L3 : Looks (model prog w) hh (fillsNumberSlot (.ref C) nm') true := fills_K X hcd hm hs
  have L4 : Looks (model prog w) hh (fillsNumberSlot (.ref C') nm') true := fills_K X hcd' hm' hs'
  have L5 : Looks (model prog w) hh (isSubtype (.ref C') (.ref C)) false := looks_subIn X hsub
  have L6 : Looks (model prog w) hh (numberSlotInPython (.ref C) nm') true := ksp_inPy X hs hr hp
  have L7 : Looks (model prog w) hh (numberSlotInPython (.ref C') nm') true := ksp_inPy X hs' hr' hp'
  have hne : (Value.ref C == Value.ref C') = false := Bool.eq_false_iff.mpr fun q => hne (by have := beq_iff_eq.mp q; cases this; rfl)
  simp only [binaryOp, hi]
  refine wpAny_holding (wpAny_bind ?_)
  unfold binaryOp1
  refine wpAny_bind (L1.at (wpAny_bind (L2.at (wpAny_bind (L3.at ?_)))))
  simp only [hne, Bool.false_eq_true, if_false]
  ksp_lk
  refine wpAny_mono one (fun r s' hr' => ?_) fun _ _ e => e
  obtain ⟨v, rfl, hq⟩ := hr'
  ksp_lk
  exact hq
theorem bin_int {op : Operator} {i : Int} {t : Tok} {id : String} {Q : Value → Shared → Prop} (X : K.In s.heap) (I' : InstAt s.heap y oy C' od') (hc' : selfFirst K C' = true)
    (hfi : fillsNumberSlot (.type "int") op.info.2 = pure true) (hl : Slot "int" (PySem.dunder op.info.2) id) (hd : ∀ {Q : Value → Shared → Prop}, Q .notImplemented s → wpAny (model prog w) A (call (.builtin id) [.int i t, .ref y]) Q E s)
    (hs' : findIn K (.ref C') (PySem.dunder op.info.2) = some (some (.ref f'))) (hr' : findIn K (.ref C') (dunderR op.info.2) = some (some (.ref f))) (hf : isFn K (.ref f) = true) (hsub : subIn K (.ref C') (.type "int") = some false)
    (h : wpAny (model prog w) A (call (.ref f) [.ref y, .int i t]) (PySem.W.CmpBack Q) E s) : wpAny (model prog w) A (binaryOp op (.int i t) (.ref y)) Q E s := by
  obtain ⟨cd', rest', hcd', hm'⟩ := ksp_first hc'
  rcases hi : op.info with ⟨sym, nm'⟩
  rw [hi] at hfi hl hs' hr'
  dsimp only at hfi hl hs' hr'
  have one := ksp_try X I' hr' hf h
  have L2 : Looks (model prog w) s.heap (typeOf (.ref y)) (.ref C') := I'.type
  have L4 : Looks (model prog w) s.heap (fillsNumberSlot (.ref C') nm') true := fills_K X hcd' hm' hs'
  have L5 : Looks (model prog w) s.heap (isSubtype (.ref C') (.type "int")) false := looks_subIn X hsub
  have hne : (Value.type "int" == Value.ref C') = false := Bool.eq_false_iff.mpr fun q => by cases beq_iff_eq.mp q
  have hpy : numberSlotInPython (.type "int") nm' = pure false := rfl
  simp only [binaryOp, hi]
  refine wpAny_holding (wpAny_bind ?_)
  unfold binaryOp1
  refine wpAny_bind (wpAny_typeOf (typeIs_int s i t) (wpAny_bind (L2.here (wpAny_bind (wpAny_of_eq hfi ?_)))))
  simp only [hne, Bool.false_eq_true, if_false]
  refine wpAny_bind (L4.here ?_)
  simp only [Bool.and_self, if_true]
  refine wpAny_bind (L5.here ?_)
  simp only [Bool.false_eq_true, if_false, pure_bind, Bool.not_false, Bool.and_self, if_true, hpy]
  refine wpAny_bind (wpAny_tryMethod_declines (typeIs_int s i t) hl (hd ⟨rfl, ?_⟩))
  refine wpAny_bind (wpAny_mono one (fun r s' hr' => ?_) fun _ _ e => e)
  obtain ⟨v, rfl, hq⟩ := hr'
  exact wpAny_bind (wpAny_rule (wpAny_pure (wpAny_pure hq)))
theorem int_no {nm : String} {g : Int → Int → Sem Fin} {i : Int} {t : Tok} {M : Model} {Q : Value → Shared → Prop} (hy : s.heap.get? y = some oy) (hd : oy.data = .plain) (h : Q .notImplemented s) :
    wpAny M A (Builtin.Int.intBinary nm g false ⟨[.int i t, .ref y], []⟩) (fun fin s' => ∃ v, fin = .done (.ret v) ∧ Q v s') E s := by
  unfold Builtin.Int.intBinary
  refine wpAny_bind (wpAny_of_eq (a := (Value.int i t, [Value.ref y])) rfl ?_)
  refine wpAny_bind (wpAny_of_eq (a := i) rfl ?_)
  refine wpAny_bind (m := asInt? (.ref y)) ?_
  unfold asInt?
  refine wpAny_bind (wpAny_load hy ?_)
  rw [hd]
  exact wpAny_pure (wpAny_bind (wpAny_rule (wpAny_pure ⟨_, rfl, h⟩)))
theorem int_no_add {i : Int} {t : Tok} {Q : Value → Shared → Prop} (hy : s.heap.get? y = some oy) (hd : oy.data = .plain) (h : Q .notImplemented s) : wpAny (model prog w) A (call (.builtin "int.__add__") [.int i t, .ref y]) Q E s :=
  wpAny_call_entry F.slot_int_add (typeIs_int s i t) F.entry_int_add (int_no hy hd h) (F.args_int_add_2 _ _)
theorem int_no_sub {i : Int} {t : Tok} {Q : Value → Shared → Prop} (hy : s.heap.get? y = some oy) (hd : oy.data = .plain) (h : Q .notImplemented s) : wpAny (model prog w) A (call (.builtin "int.__sub__") [.int i t, .ref y]) Q E s :=
  wpAny_call_entry F.slot_int_sub (typeIs_int s i t) F.entry_int_sub (int_no hy hd h) (F.args_int_sub_2 _ _)
theorem int_no_mul {i : Int} {t : Tok} {Q : Value → Shared → Prop} (hy : s.heap.get? y = some oy) (hd : oy.data = .plain) (h : Q .notImplemented s) : wpAny (model prog w) A (call (.builtin "int.__mul__") [.int i t, .ref y]) Q E s :=
  wpAny_call_entry F.slot_int_mul (typeIs_int s i t) F.entry_int_mul (int_no hy hd h) (F.args_int_mul_2 _ _)
end

section
variable {Z : Ci} {W : WX} {G : Ga} {X : Cx}
/-- the operator's name -/
def opN (o : Bi) : String := (opO o).info.2
/-- a class of one's own: what an operator asks -/
structure ClsO (K : PySem.W.Frag) (C : Addr) : Prop where
  first : selfFirst K C = true
  cls : Cls K C
/-- an operator's def -/
structure OpD (K : PySem.W.Frag) (C a : Addr) (nm : String) : Prop where
  fn : findIn K (.ref C) (PySem.dunder nm) = some (some (.ref a))
  is : isFn K (.ref a) = true
  rev : ∃ rc, findIn K (.ref C) (dunderR nm) = some rc ∧ (rc = none ∨ ∃ g : Addr, rc = some (.ref g))
/-- what is known of an operator over all classes -/
structure OpsF (X : Cx) (Z : Ci) (G : Ga) (o : Bi) : Prop where
  one : ∀ c k f, G.cls c = some k → k.op o = some f → selfFirst X.K (Z.ca c) = true ∧ (∃ a, OpD X.K (Z.ca c) a (opN o) ∧ CalF X Z (G.call f) a 2) ∧ subIn X.K (.type "int") (.ref (Z.ca c)) = some false
  two : ∀ c k f d k' f', G.cls c = some k → k.op o = some f → G.cls d = some k' → k'.op o = some f' → Z.ca c ≠ Z.ca d → subIn X.K (.ref (Z.ca d)) (.ref (Z.ca c)) = some false
  rev : ∀ c k f, G.cls c = some k → k.rop o = some f → selfFirst X.K (Z.ca c) = true ∧ (∃ a b, findIn X.K (.ref (Z.ca c)) (dunderR (opN o)) = some (some (.ref a)) ∧ isFn X.K (.ref a) = true ∧ findIn X.K (.ref (Z.ca c)) (PySem.dunder (opN o)) = some (some (.ref b)) ∧ CalF X Z (G.call f) a 2) ∧ subIn X.K (.ref (Z.ca c)) (.type "int") = some false
  int : ∃ fo ro, findIn X.K (.type "int") (PySem.dunder (opN o)) = some fo ∧ findIn X.K (.type "int") (dunderR (opN o)) = some ro
theorem back_of {pins : List (Addr × Obj)} {σ : L2.St} {Q : VK} {v : Value} {s' : Shared} (h : EP X pins σ Q v s') : PySem.W.CmpBack (EP X pins σ Q) v s' := by
  cases v <;> first | exact h | (obtain ⟨x, H', I, r, q⟩ := h; cases x <;> first | (cases r; done) | (obtain ⟨t, e⟩ := r; cases e))
theorem Takes.none {W : WX} (tk : L2.Takes X W) : L2.Takes X W0 := tk.imp fun _ _ _ _ h => h.elim
/-- a def of one's own, called by the interpreter's rule -/
theorem run_cal {call : List D → Sto → R D} {a : Addr} {n : Nat} {pins : List (Addr × Obj)} {σ : L2.St} {H : Hp} {s : Shared} {Q : VK} {us : List Value} {vs : List V} {F : Hp} {ρ : List Addr} {S : Sto} {ds : List D} (C : CalF X Z call a n) (tk : L2.Takes X W) (I : Inv X pins σ H s) (r : Vals vs us) (hl : ds.length = n)
    (hs : StoR Z F ρ S H) (rs : Reps Z F ρ ds vs) (q : PostA Z W (call ds S) (pV Z) F ρ σ H Q) : wpAny (model X.prog X.w) X.A (PySem.call (.ref a) us) (EP X pins σ Q) X.xe s := by
  obtain ⟨fd, ps, dvs, dd, ds', k, Fk, hr, hb, hd, hlen, hdd, hfill⟩ := C.ok
  have hv : vs.length = n := by rw [rs.lenV, hl]
  refine run_fnSD Fk hr hb hd (passAt tk σ) I r ⟨by rw [List.length_append, hv]; exact hlen, F, ρ, S, ds ++ _, hs, rs.app (hdd F ρ), ?_⟩
  rw [← hfill ds S hl]
  exact q.slots
theorem nox_ok {r : R D} {P : D → V → Hp → List Addr → Hp → Prop} {F H : Hp} {ρ : List Addr} {σ : L2.St} {Q : VK} (h : PostA Z W0 r.nox P F ρ σ H Q) : PostA Z W0 r P F ρ σ H Q := by
  cases r <;> first | exact h | exact h.elim
theorem PostA.un {r : R D} {P : D → V → Hp → List Addr → Hp → Prop} {F H : Hp} {ρ : List Addr} {σ σ' : L2.St} {Q : VK} (h : PostA Z W0 r P F ρ σ H Q) : PostA Z W0 r P F ρ σ' H Q := by
  cases r <;> exact h
theorem inst_at {pins : List (Addr × Obj)} {σ : L2.St} {H : Hp} {s : Shared} {a C dx : Addr} {fs : List (Str × V)} (I : Inv X pins σ H s) (e : H a = some (.ins C dx fs)) : ∃ od, PySem.W.InstAt s.heap a (PySem.W.instObj C dx) C (some od) := by
  obtain ⟨h1, h2, h3, h4, mA, h5, h6⟩ := I.hok a _ e
  obtain ⟨od, ho, _⟩ := lookIn_ns h5
  exact ⟨od, ⟨h4, rfl, rfl, ho⟩⟩
/-- int's own def does not take an instance -/
structure IntOp (o : Bi) : Prop where
  fills : fillsNumberSlot (.type "int") (opN o) = pure true
  no : ∃ id, Slot "int" (PySem.dunder (opN o)) id ∧ ∀ {prog : Program} {w : World} {A : Around} {E : Value → Shared → Prop} {s : Shared} {y : Addr} {oy : Obj} {i : Int} {t : Tok} {Q : Value → Shared → Prop}, s.heap.get? y = some oy → oy.data = .plain → Q .notImplemented s → wpAny (model prog w) A (PySem.call (.builtin id) [.int i t, .ref y]) Q E s
theorem intOp_add : IntOp .add := ⟨F.fills_int_add, _, F.slot_int_add, fun h d q => int_no_add h d q⟩
theorem intOp_sub : IntOp .sub := ⟨F.fills_int_sub, _, F.slot_int_sub, fun h d q => int_no_sub h d q⟩
theorem intOp_mul : IntOp .mul := ⟨F.fills_int_mul, _, F.slot_int_mul, fun h d q => int_no_mul h d q⟩
theorem opi_all {o : Bi} (tk : L2.Takes X W) (hO : OpsF X Z G o) (hi : (∃ c k f, G.cls c = some k ∧ k.rop o = some f) → IntOp o) : OpR X (binaryOp (opO o)) (rBi Z G o) := by
  intro pins s σ H x y v u Q I rx ry ⟨F, ρ, S, dx, dy, hi', hs, r1, r2, q⟩
  have tk0 := Takes.none tk
  have q := q.un (σ' := σ)
  cases r1 with
  | @ins a1 d1 c1 vs1 fs1 h1 l1 rs1 =>
    cases rx
    obtain ⟨od1, i1⟩ := inst_at I (hs.le _ _ h1)
    cases r2 with
    | @ins a2 d2 c2 vs2 fs2 h2 l2 rs2 =>
      cases ry
      obtain ⟨od2, i2⟩ := inst_at I (hs.le _ _ h2)
      unfold binop opc at q
      simp only at q
      cases e3 : G.cls c2 with
      | none => rw [e3] at q; exact q.elim
      | some k' =>
       simp only [e3, Option.bind_some] at q
       cases e4 : k'.op o with
       | none => rw [e4] at q; exact q.elim
       | some f' =>
        simp only [e4, Option.bind_some] at q
        cases e1 : G.cls c1 with
        | none => rw [e1] at q; exact q.elim
        | some k =>
         simp only [e1, Option.bind_some] at q
         cases e2 : k.op o with
         | none => rw [e2] at q; exact q.elim
         | some f =>
          simp only [e2] at q
          obtain ⟨f1, ⟨a, D1, C1⟩, _⟩ := hO.one c1 k f e1 e2
          have call : wpAny (model X.prog X.w) X.A (PySem.call (.ref a) [.ref a1, .ref a2]) (PySem.W.CmpBack (EP X pins σ Q)) X.xe s :=
            wpAny_mono (run_cal C1 tk0 I (.cons (show RelV (V.ref a1) (Value.ref a1) from rfl) (.cons (show RelV (V.ref a2) (Value.ref a2) from rfl) .nil)) rfl hs (.cons (.ins h1 l1 rs1) (.cons (.ins h2 l2 rs2) .nil)) (nox_ok q)) (fun _ _ z => back_of z) fun _ _ z => z
          by_cases hc : Z.ca c1 = Z.ca c2
          · have fr : ∃ m, Fr X.base X.env.locals s.heap m := I.fr
            obtain ⟨m, fr⟩ := fr
            exact binop_K fr I.mod.kin i1 (by rw [hc]; exact i2.type) f1 D1.fn D1.is call
          ·   skip
              obtain ⟨g1, ⟨a', D2, _⟩, _⟩ := hO.one c2 k' f' e3 e4
              obtain ⟨rc, r1, r2⟩ := D1.rev
              obtain ⟨rc', r3, r4⟩ := D2.rev
              exact bin_other I.kIn i1 i2 hc f1 g1 D1.fn D1.is r1 r2 D2.fn r3 r4 (hO.two c1 k f c2 k' f' e1 e2 e3 e4 hc) call
    | @int j =>
      obtain ⟨t, rfl⟩ := ry
      unfold binop opc at q
      simp only at q
      cases e1 : G.cls c1 with
      | none => rw [e1] at q; exact q.elim
      | some k =>
        simp only [e1, Option.bind_some] at q
        cases e2 : k.op o with
        | none => rw [e2] at q; exact q.elim
        | some f =>
          simp only [e2] at q
          obtain ⟨f1, ⟨a, D1, C1⟩, sub⟩ := hO.one c1 k f e1 e2
          have call : wpAny (model X.prog X.w) X.A (PySem.call (.ref a) [.ref a1, .int j t]) (PySem.W.CmpBack (EP X pins σ Q)) X.xe s :=
            wpAny_mono (run_cal C1 tk0 I (.cons (show RelV (V.ref a1) (Value.ref a1) from rfl) (.cons (show RelV (V.int j) (Value.int j t) from ⟨t, rfl⟩) .nil)) rfl hs (.cons (.ins h1 l1 rs1) (.cons .int .nil)) (nox_ok q)) (fun _ _ z => back_of z) fun _ _ z => z
          obtain ⟨m, fr⟩ := I.fr
          obtain ⟨rc, g1, g2⟩ := D1.rev
          obtain ⟨fo, ro, g3, g4⟩ := hO.int
          exact ksp_binT fr I.mod.kin i1 rfl f1 D1.fn D1.is g1 g2 g3 g4 sub call
    | _ => cases o <;> exact (show False from q).elim
  | @int i =>
    obtain ⟨t, rfl⟩ := rx
    cases r2 with
    | @ins a2 d2 c2 vs2 fs2 h2 l2 rs2 =>
      cases ry
      obtain ⟨od2, i2⟩ := inst_at I (hs.le _ _ h2)
      unfold binop opc at q
      simp only at q
      cases e1 : G.cls c2 with
      | none => rw [e1] at q; exact q.elim
      | some k =>
        simp only [e1, Option.bind_some] at q
        cases e2 : k.rop o with
        | none => rw [e2] at q; exact q.elim
        | some f =>
          simp only [e2] at q
          obtain ⟨f1, ⟨a, b, g1, g2, g3, C1⟩, sub⟩ := hO.rev c2 k f e1 e2
          have call : wpAny (model X.prog X.w) X.A (PySem.call (.ref a) [.ref a2, .int i t]) (PySem.W.CmpBack (EP X pins σ Q)) X.xe s :=
            wpAny_mono (run_cal C1 tk0 I (.cons (show RelV (V.ref a2) (Value.ref a2) from rfl) (.cons (show RelV (V.int i) (Value.int i t) from ⟨t, rfl⟩) .nil)) rfl hs (.cons (.ins h2 l2 rs2) (.cons .int .nil)) (nox_ok q)) (fun _ _ z => back_of z) fun _ _ z => z
          have io := hi ⟨c2, k, f, e1, e2⟩
          obtain ⟨id, sl, no⟩ := io.no
          exact bin_int I.kIn i2 f1 io.fills sl (fun h => no i2.at_ rfl h) g3 g1 g2 sub call
    | _ => cases hi' <;> rename_i z <;> cases z
  | _ =>
    cases r2 with
    | ins => cases o <;> exact (show False from q).elim
    | _ => cases hi' <;> rename_i z <;> cases z
end
end Mi

set_option Elab.async false
set_option linter.all false
set_option maxRecDepth 100000
set_option maxHeartbeats 4000000
/-! Mi, part 17: isinstance, minus, instances made, methods. -/
namespace Mi
open PySem PySem.Spec PyProof.Rows L2
section
variable {Z : Ci} {W : WX} {G : Ga} {X : Cx}
/-! ### isinstance -/
def tyVal (Z : Ci) : D → Value
  | .non => .type "NoneType"
  | .bl _ => .type "bool"
  | .int _ => .type "int"
  | .str _ => .type "str"
  | .lst _ => .type "list"
  | .tup _ => .type "tuple"
  | .dr _ => .type "dict"
  | .ins c _ => .ref (Z.ca c)
def tyTgt (Z : Ci) : Ty → Value
  | .int => .type "int"
  | .bool => .type "bool"
  | .str => .type "str"
  | .list => .type "list"
  | .tuple => .type "tuple"
  | .dict => .type "dict"
  | .cls c => .ref (Z.ca c)
def tyV (Z : Ci) : Ty → V
  | .int => .ty "int"
  | .bool => .ty "bool"
  | .str => .ty "str"
  | .list => .ty "list"
  | .tuple => .ty "tuple"
  | .dict => .ty "dict"
  | .cls c => .ref (Z.ca c)
theorem clsV_ty : ∀ t, ClsV (tyV Z t) (tyTgt Z t) := fun t => by cases t <;> constructor
/-- what isinstance asks of the classes -/
structure IsF (X : Cx) (Z : Ci) (G : Ga) : Prop where
  kit : ∀ d t, knD G d = true → knT G t = true → PySem.W.kitOne X.K (tyVal Z d) (tyTgt Z t) = some (tyIs t d)
  cls : ∀ c, (G.cls c).isSome = true → Cls X.K (Z.ca c) ∧ PySem.W.findIn X.K (.ref (Z.ca c)) "__class__" = some (some (.builtin "object.__class__")) ∧ PySem.W.mroIn X.K (Z.ca c) (.type "object") = some true
  get : PySem.W.specialIn X.K (.builtin "object.__class__") "__get__" = some (some (.builtin "getset_descriptor.__get__")) ∧ PySem.W.takesIn X.K (.builtin "object.__class__") = some true
theorem tyX_of (hI : IsF X Z G) (hK : X.K = Z.K) {F H : Hp} {ρ : List Addr} {S : Sto} {d : D} {x : V} (s : StoR Z F ρ S H) (hk : knD G d = true) (r : Rep Z F ρ d x) : TyX X.K H x (tyVal Z d) := by
  cases r with
  | non => exact .base .non
  | bl => exact .base (.bl _)
  | int => exact .base (.int _)
  | str => exact .base (.str _)
  | lst h r =>
    rcases rdM s.le h with h | ⟨o, h⟩
    · exact .base (.lst h)
    · exact .base (.frz h)
  | tup h r =>
    rcases seqT s.le h with (h | ⟨o, h⟩) | ⟨o, its, n, h1, h2, h3, h4, h5⟩
    · exact .base (.tup h)
    · exact .fTuple h
    · exact .kTuple (by rw [hK]; exact h1) h2
  | @ins a dx c vs fs h hl r =>
    obtain ⟨c1, c2, c3⟩ := hI.cls c hk
    exact .base (.ins (s.le _ _ h) c1 c2 hI.get.1 hI.get.2 c3)
  | @dr a n h =>
    have h' : ρ[n]? = some a := by rw [← getN_eq]; exact h
    have hl : n < S.length := by rw [← s.len]; exact (List.getElem?_eq_some_iff.mp h').1
    obtain ⟨_, vs, q, _⟩ := s.at_ n S[n] a (by simp [hl]) h'
    exact .base (.dK q)
/-- an expression that names a type -/
def OkTy (X : Cx) (Z : Ci) (t : Ty) (e : Expr) : Prop := PE X e (tC (tyV Z t))
theorem isI_sem {a : Ex} {ts : List Ty} {b : Bool} {σ : L2.St} {H : Hp} {Q : VK} (h : tE Z W G (.isI a ts b) σ H Q) :
    tE Z W G a σ H fun x H1 => ∃ d F1 ρ1 S1, StoR Z F1 ρ1 S1 H1 ∧ Rep Z F1 ρ1 d x ∧ knD G d = true ∧ (∀ t ∈ ts, knT G t = true) ∧ ∀ H2, Ext nO F1 ρ1 H1 F1 ρ1 H2 → StoR Z F1 ρ1 S1 H2 → Q (.bl (ts.any fun t => tyIs t d)) H2 := by
  refine (tG.bind (P := pV Z) (f := ev G a) (k := fun x _ S => if (knD G x && ts.all (knT G)) = true then R.ok (D.bl (ts.any fun t => tyIs t x)) S else .bad) (h.eq fun v S => by rw [ev])).wk fun x H1 ⟨d, F1, ρ1, v1, S1, he, hs, p, q⟩ => ?_
  split at q
  · rename_i z
    simp only [Bool.and_eq_true, List.all_eq_true] at z
    exact ⟨d, F1, ρ1, S1, hs, p, z.1, z.2, fun H2 e s2 => q _ _ _ _ e s2 .bl⟩
  · exact q.elim
theorem se_isI {a : Ex} {t : Ty} {x c : Expr} {p pos} (hI : IsF X Z G) (hK : X.K = Z.K) (hg : Gl X "isinstance") (hm : X.mg "isinstance" = none) (ha : PE X x (tE Z W G a)) (hc : OkTy X Z t c) (h2 : starEach [x, c] X.env = (false, eval x X.env) :: starEach [c] X.env) (h1 : starEach [c] X.env = [(false, eval c X.env)]) :
    PE X (.Call (.Name "isinstance" p) [x, c] [] pos) (tE Z W G (.isI a [t] false)) := by
  refine (pe_callB call_isi hg hm (by decide +kernel) (pa_two ha hc h2 h1) (by decide) (by decide) (by rw [h2]) (by rw [h1]; rfl)).imp fun σ H Q h => ?_
  refine (isI_sem h).wk fun y H1 ⟨d, F1, ρ1, S1, hs, r, k1, k2, q⟩ => ?_
  refine ⟨y, tyV Z t, tyVal Z d, tyTgt Z t, _, rfl, clsV_ty t, tyX_of hI hK hs k1 r, hI.kit d t k1 (k2 t (by simp)), ?_⟩
  simpa using q H1 .refl hs
/-- the names of types, in a tuple -/
def OkTys (X : Cx) (Z : Ci) : List Ty → List Expr → Prop
  | [], [] => True
  | t :: ts, e :: es => OkTy X Z t e ∧ starEach (e :: es) X.env = (false, eval e X.env) :: starEach es X.env ∧ OkTys X Z ts es
  | _, _ => False
theorem pa_tys : ∀ {ts : List Ty} {es : List Expr}, OkTys X Z ts es → PA X es (fun _ H Q => Q (ts.map (tyV Z)) H)
  | [], [], _ => pa_nil.imp fun _ _ _ q => q
  | t :: ts, e :: es, h => (pa_cons h.1 (pa_tys h.2.2) h.2.1).imp fun _ _ _ q => q
  | [], _ :: _, h => h.elim
  | _ :: _, [], h => h.elim
theorem paired_tys : ∀ ts : List Ty, Paired ClsV (ts.map (tyV Z)) (ts.map (tyTgt Z))
  | [] => .nil
  | t :: ts => .cons (clsV_ty t) (paired_tys ts)
theorem kitAny_of {K : PySem.W.Frag} {t : Value} {d : D} : ∀ {ts : List Ty}, (∀ u ∈ ts, PySem.W.kitOne K t (tyTgt Z u) = some (tyIs u d)) → PySem.W.kitAny K t (ts.map (tyTgt Z)) = some (ts.any fun u => tyIs u d)
  | [], _ => rfl
  | u :: ts, h => by
    show (match PySem.W.kitOne K t (tyTgt Z u) with | some true => some true | some false => PySem.W.kitAny K t (ts.map (tyTgt Z)) | none => none) = _
    rw [h u (by simp)]
    cases hb : tyIs u d with
    | true => simp [hb]
    | false => simp only [List.any_cons, hb, Bool.false_or]; exact kitAny_of fun w hw => h w (by simp [hw])
theorem se_isIT {a : Ex} {ts : List Ty} {x : Expr} {es : List Expr} {kk : Nat} {p pos pt} (hI : IsF X Z G) (hK : X.K = Z.K) (hg : Gl X "isinstance") (hm : X.mg "isinstance" = none) (ha : PE X x (tE Z W G a)) (hc : OkTys X Z ts es) (hl : ts.length ≤ 100)
    (h2 : starEach [x, .Tuple es kk pt] X.env = (false, eval x X.env) :: starEach [.Tuple es kk pt] X.env) (h1 : starEach [.Tuple es kk pt] X.env = [(false, eval (.Tuple es kk pt) X.env)]) :
    PE X (.Call (.Name "isinstance" p) [x, .Tuple es kk pt] [] pos) (tE Z W G (.isI a ts true)) := by
  refine (pe_callB call_isiT hg hm (by decide +kernel) (pa_two ha (pe_tup (x1 := kk) (pa_tys hc)) h2 h1) (by decide) (by decide) (by rw [h2]) (by rw [h1]; rfl)).imp fun σ H Q h => ?_
  refine (isI_sem h).wk fun y H1 ⟨d, F1, ρ1, S1, hs, r, k1, k2, q⟩ => ⟨by rw [List.length_map, ← sz_line]; exact Nat.le_trans hl (by decide), fun tp htp => ?_⟩
  have s2 : StoR Z F1 ρ1 S1 (upd H1 tp (.tup (ts.map (tyV Z)))) := hs.made htp
  exact ⟨y, tp, ts.map (tyV Z), tyVal Z d, ts.map (tyTgt Z), _, rfl, upd_same, paired_tys ts, tyX_of hI hK s2 k1 r, kitAny_of fun u hu => hI.kit d u k1 (k2 u hu), q _ (Ext.made htp) s2⟩

/-! ### minus -/
structure NegF (X : Cx) (Z : Ci) (G : Ga) : Prop where
  one : ∀ c k f, G.cls c = some k → k.neg = some f → ∃ a, PySem.W.findIn X.K (.ref (Z.ca c)) "__neg__" = some (some (.ref a)) ∧ PySem.W.isFn X.K (.ref a) = true ∧ CalF X Z (G.call f) a 1
def rN (Z : Ci) (G : Ga) : V → Hp → VK → Prop := fun x H Q => ∃ F ρ S d, StoR Z F ρ S H ∧ Rep Z F ρ d x ∧ PostA Z W0 (negD G d S) (pV Z) F ρ [] H Q
theorem un_negD (tk : L2.Takes X W) (hN : NegF X Z G) : UnR X (unaryOp .USub) (rN Z G) := by
  intro pins s σ H x v Q I rx ⟨F, ρ, S, d, hs, r, q⟩
  cases r with
  | @int i => exact un_neg pins s σ H _ v Q I rx ⟨i, rfl, PostA.done q hs .int⟩
  | @ins a dx c vs fs h hl rs =>
    cases rx
    obtain ⟨od, i1⟩ := inst_at I (hs.le _ _ h)
    have q := q.un (σ' := σ)
    unfold negD opc at q
    simp only at q
    cases e1 : G.cls c with
    | none => rw [e1] at q; exact q.elim
    | some k =>
      simp only [e1, Option.bind_some] at q
      cases e2 : k.neg with
      | none => rw [e2] at q; exact q.elim
      | some f =>
        simp only [e2] at q
        obtain ⟨b, g1, g2, C1⟩ := hN.one c k f e1 e2
        obtain ⟨m, fr⟩ := I.fr
        exact PySem.W.ksp_neg fr I.mod.kin i1 g1 g2 (run_cal C1 (Takes.none tk) I (.cons (show RelV (V.ref a) (Value.ref a) from rfl) .nil) rfl hs (.cons (.ins h hl rs) .nil) (nox_ok q))
  | _ => exact q.elim
theorem negD_nox {x : D} {S S' : Sto} {c : Nat} {fs : List D} (e : negD G x S = .ex c fs S') : False := by
  unfold negD at e
  split at e
  · cases e
  · exact opc_nox e
  · cases e
theorem se_neg {a : Ex} {x : Expr} {pos} (tk : L2.Takes X W) (hN : NegF X Z G) (ha : PE X x (tE Z W G a)) : PE X (.UnaryOp .USub x pos) (tE Z W G (.neg a)) := by
  refine (pe_un (un_negD tk hN) ha).imp fun σ H Q h => ?_
  refine (tG.bind (P := pV Z) (f := ev G a) (k := fun x _ S => negD G x S) (h.eq fun v S => by rw [ev])).wk fun y H1 ⟨d, F1, ρ1, v1, S1, he, hs, p, q⟩ => ⟨F1, ρ1, S1, d, hs, p, ?_⟩
  cases e : negD G d S1 with
  | ok r S' => rw [e] at q; exact q
  | bad => rw [e] at q; exact q
  | ex c fs S' => exact (negD_nox e).elim
end
end Mi

set_option Elab.async false
set_option linter.all false
set_option maxRecDepth 100000
set_option maxHeartbeats 4000000
/-! Mi, part 18: instances made, methods called. -/
namespace Mi
open PySem PySem.Spec PyProof.Rows L2
section
variable {Z : Ci} {W : WX} {G : Ga} {X : Cx}
/-- what __init__ leaves -/
def PostI (Z : Ci) (r : R D) (c : Nat) (a : Addr) (F : Hp) (ρ : List Addr) (H : Hp) (Q : Hp → Prop) (E : XK) : Prop := match r with
  | .ok (.ins c' fs) S => c' = c ∧ ∀ vs dx F' ρ' H', Ext (fun b => b = a) F ρ H F' ρ' H' → StoR Z F' ρ' S H' → H' a = some (.ins (Z.ca c) dx ((Z.cn c).zip vs)) → vs.length = (Z.cn c).length → F' a = none → Reps Z F' ρ' fs vs → Q H'
  | .ok _ _ => False
  | .ex k fs S => ∀ cls d F' ρ' H', Ext (fun b => b = a) F ρ H F' ρ' H' → StoR Z F' ρ' S H' → XRep Z k fs cls d F' ρ' H' → E cls d H'
  | .bad => False
/-- an __init__'s promise -/
def spI (Z : Ci) (call : List D → Sto → R D) (c np : Nat) : Sp := fun vs H Q E => vs.length = np ∧ ∃ a dx us F ρ S ds, vs = V.ref a :: us ∧ H a = some (.ins (Z.ca c) dx []) ∧ F a = none ∧ StoR Z F ρ S H ∧ Reps Z F ρ ds us ∧ PostI Z (call ds S) c a F ρ H (fun H' => Q .non H') E
/-- a class that can be called with k arguments -/
structure CalI (X : Cx) (Z : Ci) (call : List D → Sto → R D) (c k : Nat) : Prop where
  ok : ∃ (a : Addr) (fd : FuncData) (ps : List Str) (dvs : List V) (ds : List Value) (dd : List D) (n : Nat), Mk X.K (Z.ca c) a ∧ FnOk X.prog X.w X.K X.mg X.base (L2.CX X.prog X.w) n a fd ps (spI Z call c ps.length) ∧ Room (n + 1) X.A ∧ Binds X.K fd ps ds ∧ Vals dvs ds ∧ k + 1 + dvs.length = ps.length ∧
    (∀ F ρ, Reps Z F ρ dd dvs) ∧ ∀ l S, l.length = k → call l S = call (l ++ dd) S
theorem Ext.newI {F F' H H' : Hp} {ρ ρ' : List Addr} {x dx : Addr} {o u w : HO} (hx : H x = none) (hd : H dx = none) (e : Ext (fun b => b = x) F ρ (upd (upd H dx o) x u) F' ρ' H') (fx : F' x = none) : Ext nO F ρ H (upd F' x w) ρ' H' := by
  have up : ∀ {b : Addr} {z : HO}, H b = some z → upd (upd H dx o) x u b = some z := fun {b z} q => by rw [upd_ne (ne_of_none q hx), upd_ne (ne_of_none q hd)]; exact q
  have dn : ∀ {b : Addr}, upd (upd H dx o) x u b = none → H b = none := fun {b} q => by
    cases z : H b with
    | none => rfl
    | some y => rw [up z] at q; cases q
  refine ⟨e.le.trans fun b z q => ?_, fun b z q h1 h2 => e.keep b z (up q) h1 fun y => ?_, fun b q => dn (e.dom b q), fun b z q => ?_, ?_⟩
  · rw [upd_ne (ne_of_none q fx)]; exact q
  · subst y; rw [hx] at q; cases q
  · by_cases y : b = x
    · subst y; exact .inr (.inl hx)
    · rw [upd_ne y] at q
      rcases e.new b z q with q | q | q
      · exact .inl q
      · exact .inr (.inl (dn q))
      · exact (y q).elim
  · obtain ⟨m, h1, h2⟩ := e.pre
    exact ⟨m, h1, fun b hb => dn (h2 b hb)⟩
/-- behind a raise in __init__: nothing is still but what was -/
theorem Ext.newX {F F' H H' : Hp} {ρ ρ' : List Addr} {x dx : Addr} {o u : HO} (hx : H x = none) (hd : H dx = none) (e : Ext (fun b => b = x) F ρ (upd (upd H dx o) x u) F' ρ' H') : Ext nO F ρ H F' ρ' H' := by
  have up : ∀ {b : Addr} {z : HO}, H b = some z → upd (upd H dx o) x u b = some z := fun {b z} q => by rw [upd_ne (ne_of_none q hx), upd_ne (ne_of_none q hd)]; exact q
  have dn : ∀ {b : Addr}, upd (upd H dx o) x u b = none → H b = none := fun {b} q => by
    cases z : H b with
    | none => rfl
    | some y => rw [up z] at q; cases q
  refine ⟨e.le, fun b z q h1 h2 => e.keep b z (up q) h1 fun y => ?_, fun b q => dn (e.dom b q), fun b z q => ?_, ?_⟩
  · subst y; rw [hx] at q; cases q
  · rcases e.new b z q with q | q | q
    · exact .inl q
    · exact .inr (.inl (dn q))
    · subst q; exact .inr (.inl hx)
  · obtain ⟨m, h1, h2⟩ := e.pre
    exact ⟨m, h1, fun b hb => dn (h2 b hb)⟩
theorem new_fin {call : List D → Sto → R D} {c : Nat} {l dd : List D} {vs dvs : List V} {F H : Hp} {ρ : List Addr} {S : Sto} {σ : L2.St} {Q : VK} {np : Nat} (hs : StoR Z F ρ S H) (r : Reps Z F ρ (l ++ dd) (vs ++ dvs)) (hl : (vs ++ dvs).length + 1 = np)
    (q : PostA Z W ((call (l ++ dd) S).bind fun d S => match d with | .ins c' fs => if c' = c then R.ok (D.ins c' fs) S else .bad | _ => .bad) (pV Z) F ρ σ H Q) (x dx : Addr) (hx : H x = none) (hd : H dx = none) (hne : dx ≠ x) :
    spI Z call c np (.ref x :: (vs ++ dvs)) (upd (upd H dx (.own x)) x (.ins (Z.ca c) dx [])) (fun v H2 => v = .non ∧ Q (.ref x) H2) (WE W σ) := by
  have fx : F x = none := by
    cases z : F x with
    | none => rfl
    | some u => rw [hs.le x u z] at hx; cases hx
  refine ⟨by simpa using hl, x, dx, vs ++ dvs, F, ρ, S, l ++ dd, rfl, upd_same, fx, (hs.made hd).made (by rw [upd_ne (Ne.symm hne)]; exact hx), r, ?_⟩
  cases e : call (l ++ dd) S with
  | bad => rw [e] at q; exact q.elim
  | ex k fs S' =>
    rw [e] at q
    exact fun cls d F' ρ' H' ex s xr => q cls d F' ρ' H' (Ext.newX hx hd ex) s xr
  | ok d S' =>
    rw [e] at q
    cases d with
    | ins c' fs =>
      simp only [R.bind] at q
      split at q
      · rename_i hc
        subst hc
        refine ⟨rfl, fun vs dx F' ρ' H' ex s ho hl f0 rr => ⟨rfl, ?_⟩⟩
        have le : Same F' (upd F' x (.ins (Z.ca c') dx ((Z.cn c').zip vs))) := fun b z q => by rw [upd_ne (ne_of_none q f0)]; exact q
        have mo : ∀ {l : List D} {ws : List V}, Reps Z F' ρ' l ws → Reps Z (upd F' x (.ins (Z.ca c') dx ((Z.cn c').zip vs))) ρ' l ws := fun r => by
          have := Reps.mono (m := []) le r
          rwa [List.append_nil] at this
        refine q _ _ _ _ (Ext.newI hx hd ex f0) ⟨fun b z q => ?_, s.len, s.nd, fun n kv b h1 h2 => ?_⟩ (.ins upd_same hl (mo rr))
        · by_cases y : b = x
          · subst y; rw [upd_same] at q; cases q; exact ho
          · rw [upd_ne y] at q; exact s.le b z q
        · obtain ⟨g1, ws, g2, g3⟩ := s.at_ n kv b h1 h2
          exact ⟨by rw [upd_ne (fun z => by subst z; rw [ho] at g2; cases g2)]; exact g1, ws, g2, mo g3⟩
      · exact q.elim
    | _ => exact q.elim
theorem se_new {c : Nat} {k : Cl} {es : Exs} {x : Str} {as : List Expr} {p pos} (hk : G.cls c = some k) (C : CalI X Z (G.call k.init) c (exN es)) (tk : L2.Takes X W) (hg : Gl X x) (hm : X.mg x = some (.ref (Z.ca c))) (hdb : (x == ("__debug__" : Str)) = false)
    (ha : PA X as (tEs Z W G es)) (he : ∀ b bs, as = b :: bs → starEach as X.env = (false, eval b X.env) :: starEach bs X.env ∧ (backTo pos (starEach bs X.env)).any (·.1) = false) (hn : as = [] → es = .nil) : PE X (.Call (.Name x p) as [] pos) (tE Z W G (.new c es)) := by
  obtain ⟨a, fd, ps, dvs, ds, dd, n, M, F, hr, hb, hd, hlen, hdd, hfill⟩ := C.ok
  cases as with
  | nil =>
    obtain rfl := hn rfl
    refine (mkS0 M F hr hg hm hb hd (fun σ => passAt tk σ) hdb).imp fun σ H Q h => ?_
    obtain ⟨F1, ρ1, v, S, he1, hs, hp⟩ := h
    rw [ev, evs] at hp
    simp only [R.bind, hk] at hp
    have hl0 : ([] : List D).length = exN .nil := rfl
    exact fun x dx hx hdx hne => new_fin (l := []) (vs := []) hs (hdd F1 ρ1) (by simp [exN] at hlen; simp; omega) (by rw [← hfill [] S hl0]; exact hp) x dx hx hdx hne
  | cons b bs =>
    obtain ⟨h1, h2⟩ := he b bs rfl
    refine (mkS M F hr hg hm hb hd (fun σ => passAt tk σ) (tEs_len ha) hdb h1 h2).imp fun σ H Q h => ?_
    refine (tG.args (k := fun l _ S => (G.call k.init l S).bind fun d S => match d with | .ins c' fs => if c' = c then R.ok (D.ins c' fs) S else .bad | _ => .bad) (h.eq fun v S => by rw [ev]; simp only [hk] <;> rfl)).wk fun vs H1 ⟨l, F1, ρ1, v1, S1, he1, hs, r, q⟩ hl x dx hx hdx hne => ?_
    exact new_fin hs (r.app (hdd F1 ρ1)) (by rw [List.length_append, hl]; omega) (by rw [← hfill l S1 (by rw [r.len]; exact hl)]; exact q) x dx hx hdx hne
/-! ### methods -/
structure MthF (X : Cx) (Z : Ci) (G : Ga) (m : Nat) (name : Str) (n : Nat) : Prop where
  ex : ∃ c k f, G.cls c = some k ∧ k.mth m = some f
  one : ∀ c k f, G.cls c = some k → k.mth m = some f → ∃ a, Cls X.K (Z.ca c) ∧ Meth X.K (Z.ca c) name a ∧ (∀ y ∈ Z.cn c, y ≠ name) ∧ CalF X Z (G.call f) a (n + 1)
theorem _root_.L2.PE.any {ι : Type} {P : ι → Prop} {e : Expr} {t : ι → TE} (h : ∀ i, P i → PE X e (t i)) : PE X e (fun σ H Q => ∃ i, P i ∧ t i σ H Q) := ⟨fun pins s σ H Q I ⟨i, p, q⟩ => (h i p).run pins s σ H Q I q⟩
theorem zip_lookup {y : Str} : ∀ {ns : List Str} {vs : List V}, (∀ x ∈ ns, x ≠ y) → (ns.zip vs).lookup y = none
  | [], _, _ => rfl
  | n :: ns, [], _ => rfl
  | n :: ns, v :: vs, h => by
    show List.lookup y ((n, v) :: ns.zip vs) = none
    have : (y == n) = false := beq_eq_false_iff_ne.mpr fun e => h n (by simp) e.symm
    simp only [List.lookup, this]
    exact zip_lookup fun x hx => h x (by simp [hx])
theorem se_mth {m : Nat} {a : Ex} {es : Exs} {o : Expr} {y : Str} {as : List Expr} {apos pos} {pl : Sem Bool} (hM : MthF X Z G m y (exN es)) (tk : L2.Takes X W) (hao : PE X o (tE Z W G a))
    (ha : PA X as (tEs Z W G es)) (he : ∀ b bs, as = b :: bs → starEach as X.env = (false, eval b X.env) :: starEach bs X.env ∧ (backTo pos (starEach bs X.env)).any (·.1) = false) (hn : as = [] → es = .nil)
    (ht : eval (.Call (.Attribute o y apos) as [] pos) X.env = (do
      let ov ← eval o X.env
      standAt apos.atName
      let (g, first) ← holding [ov] (getMethod ov y pl)
      callWith pos g first (backTo pos (starEach as X.env)) (backToKw pos (keywordEach [] X.env)))) : PE X (.Call (.Attribute o y apos) as [] pos) (tE Z W G (.mth m a es)) := by
  have evm : ∀ v S, ev G (.mth m a es) v S = (ev G a v S).bind fun x S => match x with
    | .ins c fs => (match (G.cls c).bind fun k => k.mth m with
      | some f => (evs G es v S).bind fun l S => G.call f (.ins c fs :: l) S
      | none => .bad)
    | _ => .bad := fun v S => by rw [ev] <;> rfl
  have one : ∀ i : Nat × Cl × Nat, (G.cls i.1 = some i.2.1 ∧ i.2.1.mth m = some i.2.2) → PE X (.Call (.Attribute o y apos) as [] pos) (fun σ H Q => ∃ F ρ v S, EnvR Z F ρ v σ H ∧ StoR Z F ρ S H ∧ (∀ d S1, ev G a v S = .ok d S1 → ∃ fs, d = .ins i.1 fs) ∧ PostA Z W (ev G (.mth m a es) v S) (pV Z) F ρ σ H Q) := by
    rintro ⟨c, k, f⟩ ⟨h1, h2⟩
    simp only at h1 h2
    obtain ⟨ad, hc, hme, hno, C⟩ := hM.one c k f h1 h2
    obtain ⟨fd, ps, dvs, ds, dd, n, F, hr, hb, hd, hlen, hdd, hfill⟩ := C.ok
    have key : ∀ {t : TA}, (∀ {σ H} {R : List V → Hp → Prop}, tEs Z W G es σ H (fun vs H1 => vs.length = exN es → R vs H1) → t σ H R) → ∀ σ H Q, (∃ F ρ v S, EnvR Z F ρ v σ H ∧ StoR Z F ρ S H ∧ (∀ d S1, ev G a v S = .ok d S1 → ∃ fs, d = .ins c fs) ∧ PostA Z W (ev G (.mth m a es) v S) (pV Z) F ρ σ H Q) →
        tMthS (Z.ca c) y (spF Z (G.call f) ps.length) dvs (WE W) (tE Z W G a) t σ H Q := by
      rintro t ht σ H Q ⟨F, ρ, v, S, he1, hs, hd1, hp⟩
      rw [evm] at hp
      refine ⟨F, ρ, v, S, he1, hs, ?_⟩
      cases q : ev G a v S with
      | bad => rw [q] at hp; exact hp.elim
      | ex k fs S1 => rw [q] at hp; exact hp
      | ok d S1 =>
        obtain ⟨fs, rfl⟩ := hd1 d S1 q
        rw [q] at hp
        simp only [R.bind, h1, Option.bind_some, h2] at hp
        intro x F1 ρ1 H1 e1 s1 r1
        cases r1 with
        | @ins a1 dx _ vs _ g1 g2 g3 =>
          refine ⟨a1, dx, _, rfl, s1.le _ _ g1, zip_lookup hno, ht ?_⟩
          have hp' := PostA.ext hp e1
          refine ⟨F1, ρ1, v, S1, he1.ext e1, s1, (PostA.bind (P := pVs Z) hp').mono fun ls ws F2 ρ2 H2 e2 p2 k2 hl => ?_⟩
          obtain ⟨l, F3, ρ3, S3, e3, s3, p3, q3⟩ := k2 ws p2
          have ri : Rep Z F3 ρ3 (.ins c fs) (.ref a1) := e3.rep (.ins g1 g2 g3)
          have hlen' : (V.ref a1 :: (ws ++ dvs)).length = ps.length := by simp [hl]; omega
          refine ⟨hlen', F3, ρ3, S3, .ins c fs :: l ++ dd, s3, Reps.app (.cons ri p3) (hdd F3 ρ3), ?_⟩
          rw [← hfill (.ins c fs :: l) S3 (by simp [p3.len, hl])]
          exact q3.slots
    cases as with
    | nil =>
      obtain rfl := hn rfl
      refine (methS0 (pl := pl) (E := WE W) hao hc hme F hr hb hd (fun σ => passAt tk σ) ht).imp (key fun {σ H R} ⟨F, ρ, v, S, h1, h2, h3⟩ => ?_)
      exact (PostA.done (P := pVs Z) (W := W) (σ := σ) (Q := fun vs H1 => vs.length = exN .nil → R vs H1) (by unfold evs at h3; exact h3) h2 .nil) rfl
    | cons b bs =>
      obtain ⟨k1, k2⟩ := he b bs rfl
      exact (methS (pl := pl) (E := WE W) hao hc hme F hr hb hd (fun σ => passAt tk σ) (tEs_len ha) k1 k2 ht).imp (key fun h => h)
  refine (PE.any one).imp fun σ H Q ⟨F, ρ, v, S, he1, hs, hp⟩ => ?_
  have hp0 := hp
  rw [evm] at hp
  cases q : ev G a v S with
  | bad => rw [q] at hp; exact hp.elim
  | ex k fs S1 =>
    obtain ⟨c, k, f, h1, h2⟩ := hM.ex
    exact ⟨(c, k, f), ⟨h1, h2⟩, F, ρ, v, S, he1, hs, fun d S1 e => (by rw [q] at e; cases e), hp0⟩
  | ok d S1 =>
    rw [q] at hp
    cases d with
    | ins c fs =>
      simp only [R.bind] at hp
      cases h1 : G.cls c with
      | none => rw [h1] at hp; exact hp.elim
      | some k =>
        simp only [h1, Option.bind_some] at hp
        cases h2 : k.mth m with
        | none => rw [h2] at hp; exact hp.elim
        | some f => exact ⟨(c, k, f), ⟨h1, h2⟩, F, ρ, v, S, he1, hs, fun d S1 e => (by rw [q] at e; cases e; exact ⟨fs, rfl⟩), hp0⟩
    | _ => exact hp.elim
end
end Mi

set_option Elab.async false
set_option linter.all false
set_option maxRecDepth 100000
set_option maxHeartbeats 4000000
/-! Mi, part 18b: dicts of the store. -/
namespace Mi
open PySem PySem.Spec PyProof.Rows L2
section
variable {Z : Ci} {W : WX} {G : Ga} {X : Cx}
theorem toS_inj1 {s t : List Nat} (h : toS s = toS t) : s = t := by
  unfold toS at h
  injection h with h
  exact congrArg Array.toList h
theorem key_ne {s t : List Nat} (h : s ≠ t) : (Sum.inr (toS s) : Key) ≠ Sum.inr (toS t) := fun e => h (toS_inj1 (Sum.inr.inj e))
theorem lookK_some {F : Hp} {ρ : List Addr} {k : List Nat} : ∀ {kv : Kv} {vs : List V} {d : D}, lookK k kv = some d → Reps Z F ρ (kv.map (·.2)) vs → ∃ v, valV ((keysOf kv).zip vs) (.inr (toS k)) = some v ∧ Rep Z F ρ d v
  | [], vs, d, h, r => by cases h
  | (t, e) :: kv, vs, d, h, r => by
    cases r with
    | cons r1 r2 =>
      rename_i v vs
      unfold lookK at h
      show ∃ w, valV ((Sum.inr (toS t), v) :: (keysOf kv).zip vs) (.inr (toS k)) = some w ∧ _
      by_cases q : t = k
      · subst q
        rw [if_pos rfl] at h; cases h
        refine ⟨v, ?_, r1⟩
        simp [valV]
      · rw [if_neg q] at h
        obtain ⟨w, h1, h2⟩ := lookK_some h r2
        refine ⟨w, ?_, h2⟩
        rw [← h1]
        simp [valV, key_ne q, Ne.symm (key_ne q)]
theorem put_any {F : Hp} {ρ : List Addr} {k : List Nat} : ∀ {kv : Kv} {vs : List V}, Reps Z F ρ (kv.map (·.2)) vs → (((keysOf kv).zip vs).any fun p => decide (p.1 = (Sum.inr (toS k) : Key))) = kv.any fun p => decide (p.1 = k)
  | [], vs, h => rfl
  | (t, e) :: kv, vs, h => by
    cases h with
    | cons r1 r2 =>
      rename_i u vs
      show (((Sum.inr (toS t), u) :: (keysOf kv).zip vs).any fun p => decide (p.1 = (Sum.inr (toS k) : Key))) = _
      rw [List.any_cons, List.any_cons, put_any r2]
      by_cases q : t = k
      · subst q; simp
      · simp [q, key_ne q]
theorem put_map {F : Hp} {ρ : List Addr} {k : List Nat} {d : D} {v : V} (r : Rep Z F ρ d v) : ∀ {kv : Kv} {vs : List V}, Reps Z F ρ (kv.map (·.2)) vs → ∃ ws, ((keysOf kv).zip vs).map (fun p => if p.1 = (Sum.inr (toS k) : Key) then (p.1, v) else p) = (keysOf (kv.map fun p => if p.1 = k then (p.1, d) else p)).zip ws ∧
    Reps Z F ρ ((kv.map fun p => if p.1 = k then (p.1, d) else p).map (·.2)) ws
  | [], vs, h => ⟨[], rfl, .nil⟩
  | (t, e) :: kv, vs, h => by
    cases h with
    | cons r1 r2 =>
      rename_i u vs
      obtain ⟨ws, h1, h2⟩ := put_map r r2
      show ∃ ws, ((Sum.inr (toS t), u) :: (keysOf kv).zip vs).map _ = _ ∧ _
      rw [List.map_cons, h1]
      by_cases q : t = k
      · subst q
        refine ⟨v :: ws, ?_, ?_⟩
        · simp [keysOf]
        · simp only [List.map_cons, if_true]; exact .cons r h2
      · refine ⟨u :: ws, ?_, ?_⟩
        · simp [keysOf, q, key_ne q]
        · simp only [List.map_cons, if_neg q]; exact .cons r1 h2
theorem keys_zip {F : Hp} {ρ : List Addr} : ∀ {kv : Kv} {vs : List V}, Reps Z F ρ (kv.map (·.2)) vs → kv.length = vs.length := fun h => by have := h.len; simpa using this
theorem putK_zip {F : Hp} {ρ : List Addr} {k : List Nat} {d : D} {v : V} {kv : Kv} {vs : List V} (r : Rep Z F ρ d v) (h : Reps Z F ρ (kv.map (·.2)) vs) : ∃ ws, L2.putK ((keysOf kv).zip vs) (.inr (toS k)) v = (keysOf (putK k d kv)).zip ws ∧ Reps Z F ρ ((putK k d kv).map (·.2)) ws := by
  unfold L2.putK putK
  rw [put_any h]
  cases q : kv.any fun p => decide (p.1 = k) with
  | true =>
    simp only [if_true]
    exact put_map r h
  | false =>
    simp only [Bool.false_eq_true, if_false]
    refine ⟨vs ++ [v], ?_, ?_⟩
    · have hl := keys_zip h
      unfold keysOf
      rw [List.map_append, List.zip_append (by simpa using hl)]
      rfl
    · rw [List.map_append]; exact h.app (.one r)
/-- a dict of the store is written -/
theorem St0.dput {B : List Bs} {v : Env} {S : Sto} {F H : Hp} {ρ : List Addr} {σ : L2.St} {n : Nat} {a : Addr} {kv kv' : Kv} {ws : List V} (st : St0 Z B v S F ρ σ H) (ha : ρ[n]? = some a) (hS : S[n]? = some kv) (hr : Reps Z F ρ (kv'.map (·.2)) ws) : St0 Z B v (setN S n kv') F ρ σ (upd H a (.dK ((keysOf kv').zip ws))) := by
  have mem : a ∈ ρ := List.mem_of_getElem? ha
  obtain ⟨hf, vs, hH, _⟩ := st.sto.at_ n kv a hS ha
  rw [setN_eq]
  refine ⟨⟨st.env.len, fun i s o h1 h2 => ?_, st.env.inj, st.env.out⟩, ⟨fun b u q => ?_, by rw [List.length_set]; exact st.sto.len, st.sto.nd, fun m kw b h1 h2 => ?_⟩, fun b hb => ?_, st.own, st.slf⟩
  · have q := st.env.at_ i s o h1 h2
    have no : ∀ b, Own s o b → b ≠ a := fun b w e => st.env.out i s o b h1 h2 w (e ▸ mem)
    cases s with
    | un => trivial
    | va d => exact q
    | ol l => obtain ⟨b, vs, rfl, g1, g2, g3⟩ := q; exact ⟨b, vs, rfl, by rw [upd_ne (no b ⟨trivial, rfl⟩)]; exact g1, g2, g3⟩
    | sf c fs => obtain ⟨b, dx, vs, rfl, g1, g2, g3, g4⟩ := q; exact ⟨b, dx, vs, rfl, by rw [upd_ne (no b ⟨trivial, rfl⟩)]; exact g1, g2, g3, g4⟩
  · rw [upd_ne (fun z => by subst z; rw [hf] at q; cases q)]; exact st.sto.le b u q
  · rcases set_cases h1 with ⟨e, rfl⟩ | ⟨e, h1⟩
    · subst e
      rw [ha] at h2; cases h2
      exact ⟨hf, ws, upd_same, hr⟩
    · obtain ⟨g1, us, g2, g3⟩ := st.sto.at_ m kw b h1 h2
      have ne : b ≠ a := fun z => by
        subst z
        have hn := List.getElem?_eq_some_iff.mp ha
        have hm := List.getElem?_eq_some_iff.mp h2
        exact e ((List.getElem_inj st.sto.nd).mp (hm.2.trans hn.2.symm))
      exact ⟨g1, us, by rw [upd_ne ne]; exact g2, g3⟩
  · have e := st.ext b hb
    refine ⟨e.le, fun c u q h1 h2 => ?_, fun c q => ?_, e.new, e.pre⟩
    · obtain ⟨m, hm, hm2⟩ := e.pre
      rw [upd_ne (fun z => by
        subst z
        rw [hm] at mem
        rcases List.mem_append.mp mem with q' | q'
        · exact h1 q'
        · rw [hm2 c q'] at q; cases q)]
      exact e.keep c u q h1 h2
    · by_cases z : c = a
      · subst z; rw [upd_same] at q; cases q
      · rw [upd_ne z] at q; exact e.dom c q
/-- d[key] -/
theorem se_dget {a : Ex} {k : List Nat} {x b : Expr} {pos} (hu : X.A.units + 1 < cLine) (ha : PE X x (tE Z W G a)) (hb : PE X b (tC (.str (toS k)))) (hs : NoSl b) : PE X (.Subscript x b pos) (tE Z W G (.dget a k)) := by
  refine (pe_dget hu ha hb hs).imp fun σ H Q h => ?_
  refine (tG.bind (P := pV Z) (f := ev G a) (k := fun x S0 S => match x with | .dr n => (match (getN S n).bind (lookK k) with | some d => R.ok d S | none => .bad) | _ => .bad) (h.eq fun v S => by rw [ev] <;> rfl)).wk fun y H1 ⟨d, F1, ρ1, v1, S1, he, hs1, p, q⟩ => ?_
  cases p with
  | @dr ad n hn =>
    simp only at q
    cases e : getN S1 n with
    | none => rw [e] at q; exact q.elim
    | some kv =>
      simp only [e, Option.bind_some] at q
      cases e2 : lookK k kv with
      | none => rw [e2] at q; exact q.elim
      | some d =>
        rw [e2] at q
        rw [getN_eq] at e hn
        obtain ⟨hf, vs, hH, r⟩ := hs1.at_ n kv ad e hn
        obtain ⟨w, g1, g2⟩ := lookK_some e2 r
        exact ⟨ad, w, rfl, .inl ⟨_, Sum.inr (toS k), .inl hH, rfl, g1.symm⟩, PostA.done q hs1 g2⟩
  | _ => exact q.elim
/-- d[key] = e -/
theorem ss_dset {i : Nat} {k : List Nat} {e : Ex} {st : Stmt} (h : PS X st (sDPut (tVar i) (tC (.str (toS k))) (tE Z W G e))) : PS X st (tS Z W (xs1 G (.dset i k e))) := h.imp fun E σ H ⟨B, v, S, F, ρ, s0, hp⟩ => by
  rw [xs1] at hp
  cases q : getN v i with
  | none => rw [q] at hp; exact hp.elim
  | some s =>
    rw [q] at hp
    cases s with
    | va dv =>
      cases dv with
      | dr n =>
        refine ⟨F, ρ, v, S, s0.env, s0.sto, (PostS.bind (P := pV Z) hp s0).mono fun d x F1 ρ1 H1 e1 p kk => ?_⟩
        obtain ⟨d, F2, ρ2, S2, e2, p2, s2, q2⟩ := kk x p
        obtain ⟨o, hs, y, rfl, ry⟩ := s2.env.get q
        cases ry with
        | @dr ad _ hn =>
          cases eS : getN S2 n with
          | none => rw [eS] at q2; exact q2.elim
          | some kv =>
            simp only [eS] at q2
            split at q2
            · rename_i z
              rw [getN_eq] at eS hn
              obtain ⟨hf, vs, hH, r⟩ := s2.sto.at_ n kv ad eS hn
              obtain ⟨ws, g1, g2⟩ := putK_zip (k := k) p2 r
              refine ⟨.ref ad, hs, ad, _, rfl, .inl ⟨_, Sum.inr (toS k), hH, rfl, ?_, rfl⟩, ?_⟩
              · rw [List.length_zip, ← sz_line]
                have : (keysOf kv).length = kv.length := by unfold keysOf; rw [List.length_map]
                omega
              · rw [g1]
                exact q2 σ F2 ρ2 _ (s2.dput hn eS g2)
            · exact q2.elim
      | _ => exact hp.elim
    | _ => exact hp.elim
/-- the pairs of a display -/
def trsD (Z : Ci) (W : WX) (G : Ga) : List (List Nat) → Exs → List (TE × TE)
  | k :: ks, .cons e es => (tC (.str (toS k)), tE Z W G e) :: trsD Z W G ks es
  | _, _ => []
theorem tp_of : ∀ {ks : List (List Nat)} {es : Exs} {σ : L2.St} {H : Hp} {Q : List (V × V) → Hp → Prop}, ks.length = exN es → tEs Z W G es σ H (fun vs H2 => Q ((ks.map fun k => V.str (toS k)).zip vs) H2) → tPairs (trsD Z W G ks es) σ H Q
  | [], .nil, σ, H, Q, _, ⟨F, ρ, v, S, he, hs, hp⟩ => PostA.done (P := pVs Z) (W := W) (σ := σ) (Q := fun vs H2 => Q ((([] : List (List Nat)).map fun k => V.str (toS k)).zip vs) H2) (by unfold evs at hp; exact hp) hs .nil
  | [], .cons _ _, _, _, _, h, _ => by cases h
  | _ :: _, .nil, _, _, _, h, _ => by cases h
  | k :: ks, .cons e es, σ, H, Q, hl, h => by
    show tE Z W G e σ H fun y H2 => tPairs (trsD Z W G ks es) σ H2 fun ps H3 => Q ((V.str (toS k), y) :: ps) H3
    refine (tG.bind (P := pV Z) (f := ev G e) (k := fun x v S => (evs G es v S).bind fun l S => R.ok (x :: l) S) (h.eq fun v S => by rw [evs])).wk fun y H1 ⟨d, F1, ρ1, v1, S1, he, hs, p, q⟩ => ?_
    refine tp_of (by simpa [exN] using hl) ⟨F1, ρ1, v1, S1, he, hs, (PostA.bind (P := pVs Z) q).mono fun l vs F' ρ' H' e1 p1 k1 => ?_⟩
    obtain ⟨l, F2, ρ2, S2, e2, s2, p2, q2⟩ := k1 vs p1
    exact PostA.done (P := pVs Z) q2 s2 (.cons (e2.rep p) p2)
theorem merge_id {kvs : List (Key × V)} : ∀ {acc : List (Key × V)}, (acc.map (·.1) ++ kvs.map (·.1)).Nodup → mergeK acc kvs = acc ++ kvs := by
  induction kvs with
  | nil => intro acc _; simp [mergeK]
  | cons p kvs ih =>
    intro acc h
    have hp : p.1 ∉ acc.map (·.1) := fun q => (List.nodup_append.mp h).2.2 p.1 q p.1 (by simp) rfl
    have e : L2.putK acc p.1 p.2 = acc ++ [p] := by
      unfold L2.putK
      rw [if_neg]
      intro q
      obtain ⟨x, hx, hx2⟩ := List.any_eq_true.mp q
      exact hp (List.mem_map.mpr ⟨x, hx, of_decide_eq_true hx2⟩)
    show mergeK (L2.putK acc p.1 p.2) kvs = _
    rw [e, ih (by simpa using h), List.append_assoc]
    rfl
theorem zipA : ∀ {ks : List (List Nat)} {l : List D} {vs : List V}, ks.length = l.length → ks.length = vs.length → (ks.map fun k => V.str (toS k)).zip vs = ((keysOf (ks.zip l)).zip vs).map fun kv => (kV kv.1, kv.2)
  | [], _, _, _, _ => by simp [keysOf]
  | k :: ks, [], _, h, _ => by cases h
  | k :: ks, _ :: _, [], _, h => by cases h
  | k :: ks, d :: l, u :: us, h1, h2 => by
    have := zipA (ks := ks) (l := l) (vs := us) (by simpa using h1) (by simpa using h2)
    simp only [List.map_cons, List.zip_cons_cons, keysOf] at this ⊢
    rw [this]
    rfl
theorem zipK : ∀ {ks : List (List Nat)} {l : List D} {vs : List V}, ks.length = l.length → ks.length = vs.length → ((keysOf (ks.zip l)).zip vs).map (·.1) = ks.map fun k => (Sum.inr (toS k) : Key)
  | [], _, _, _, _ => by simp [keysOf]
  | k :: ks, [], _, h, _ => by cases h
  | k :: ks, _ :: _, [], _, h => by cases h
  | k :: ks, d :: l, u :: us, h1, h2 => by
    have := zipK (ks := ks) (l := l) (vs := us) (by simpa using h1) (by simpa using h2)
    simp only [List.map_cons, List.zip_cons_cons, keysOf] at this ⊢
    rw [this]
theorem se_disp {ks : List (List Nat)} {es : Exs} {keys : List (Option Expr)} {vals : List Expr} {pos} (h : PPs X pos keys vals (trsD Z W G ks es)) (hall : keys.all (·.isSome) = true) (hl : keys.length = vals.length) (h0 : keys ≠ []) (h15 : keys.length ≤ 15) (hk : ks.length = exN es) :
    PE X (.Dict keys vals pos) (tE Z W G (.disp ks es)) := by
  refine (pe_disp h hall hl h0 h15).imp fun σ H Q ⟨F, ρ, v, S, he, hs, hp⟩ p hpn => ?_
  rw [ev] at hp
  have hs1 : StoR Z F ρ S (upd H p (.dK [])) := hs.made hpn
  have e0 : Ext nO F ρ H F ρ (upd H p (.dK [])) := Ext.made hpn
  have fp : F p = none := by
    cases z : F p with
    | none => rfl
    | some u => rw [hs.le p u z] at hpn; cases hpn
  have np : p ∉ ρ := fun q => by
    obtain ⟨n, hn⟩ := List.mem_iff_getElem?.mp q
    obtain ⟨u, hu⟩ := hs.out hn
    rw [hpn] at hu; cases hu
  have hp1 := PostA.ext hp e0
  refine tp_of hk ⟨F, ρ, v, S, he.ext e0, hs1, ?_⟩
  -- the run, from the heap with the new dict
  cases q : evs G es v S with
  | bad => rw [q] at hp; exact hp.elim
  | ex c fs S1 => rw [q] at hp1; exact hp1
  | ok l S1 =>
    rw [q] at hp
    simp only [R.bind] at hp
    split at hp
    · rename_i z
      obtain ⟨z1, z2, z3⟩ := z
      intro vs F1 ρ1 H1 e1 s1 r1
      have hH1 : H1 p = some (.dK []) := e1.keep p _ upd_same np (fun q => q)
      have hF1 : F1 p = none := by
        cases zz : F1 p with
        | none => rfl
        | some u =>
          rcases e1.new p u zz with w | w | w
          · rw [fp] at w; cases w
          · rw [upd_same] at w; cases w
          · exact w.elim
      have np1 : p ∉ ρ1 := by
        obtain ⟨m, rfl, hm⟩ := e1.pre
        intro w
        rcases List.mem_append.mp w with w | w
        · exact np w
        · have := hm p w; rw [upd_same] at this; cases this
      have hlen : ks.length = vs.length := by rw [z1]; exact r1.len
      refine ⟨hH1, (keysOf (ks.zip l)).zip vs, ?_, ?_, ?_⟩
      · exact zipA z1 hlen
      · unfold keysOf; simp; omega
      · have nd : (([] : List (Key × V)).map (·.1) ++ ((keysOf (ks.zip l)).zip vs).map (·.1)).Nodup := by
          rw [List.map_nil, List.nil_append, zipK z1 hlen]
          exact List.pairwise_map.mpr (z2.imp fun ne e => ne (toS_inj1 (Sum.inr.inj e)))
        rw [merge_id nd, List.nil_append]
        refine hp (.ref p) F1 (ρ1 ++ [p]) _ ?_ ?_ ?_
        · obtain ⟨m, h1, h2⟩ := e1.pre
          have dn : ∀ {b : Addr}, upd H p (.dK []) b = none → H b = none := fun {b} q => by
            by_cases y : b = p
            · subst y; exact hpn
            · rwa [upd_ne y] at q
          refine ⟨e1.le, fun b u q g1 g2 => ?_, fun b q => ?_, fun b u q => ?_, m ++ [p], by rw [h1, List.append_assoc], fun b hb => ?_⟩
          · rw [upd_ne (ne_of_none q hpn)]; exact e1.keep b u (by rw [upd_ne (ne_of_none q hpn)]; exact q) g1 g2
          · by_cases y : b = p
            · subst y; rw [upd_same] at q; cases q
            · rw [upd_ne y] at q; exact dn (e1.dom b q)
          · rcases e1.new b u q with w | w | w
            · exact .inl w
            · exact .inr (.inl (dn w))
            · exact w.elim
          · rcases List.mem_append.mp hb with w | w
            · exact dn (h2 b w)
            · rw [List.mem_singleton.mp w]; exact hpn
        · refine ⟨fun b u q => ?_, by rw [List.length_append, List.length_append, s1.len]; rfl, ?_, fun n kv b g1 g2 => ?_⟩
          · rw [upd_ne (fun y => by subst y; rw [hF1] at q; cases q)]; exact s1.le b u q
          · exact List.nodup_append.mpr ⟨s1.nd, by simp, fun x hx y hy e => np1 (by rw [← (List.mem_singleton.mp hy), ← e]; exact hx)⟩
          · by_cases hn : n < S1.length
            · rw [List.getElem?_append_left hn] at g1
              rw [List.getElem?_append_left (by rw [s1.len]; exact hn)] at g2
              obtain ⟨k1, us, k2, k3⟩ := s1.at_ n kv b g1 g2
              refine ⟨k1, us, ?_, ?_⟩
              · rw [upd_ne (fun y => by subst y; exact np1 (List.mem_of_getElem? g2))]; exact k2
              · have := Reps.mono (m := [p]) (Same.refl F1) k3
                exact this
            · have hn' : n = S1.length := by
                have := (List.getElem?_eq_some_iff.mp g1).1
                rw [List.length_append] at this
                simp at this; omega
              subst hn'
              rw [List.getElem?_append_right (Nat.le_refl _)] at g1
              rw [List.getElem?_append_right (by rw [s1.len]; exact Nat.le_refl _), s1.len] at g2
              simp at g1 g2
              subst g1 g2
              refine ⟨hF1, vs, upd_same, ?_⟩
              have : (ks.zip l).map (·.2) = l := by rw [List.map_snd_zip]; omega
              rw [this]
              exact Reps.mono (m := [p]) (Same.refl F1) r1
        · refine .dr ?_
          rw [getN_eq, List.getElem?_append_right (by rw [s1.len]; exact Nat.le_refl _), s1.len]
          simp
    · exact hp.elim
end
end Mi

set_option Elab.async false
set_option linter.all false
set_option maxRecDepth 100000
set_option maxHeartbeats 4000000
/-! Mi, part 18c: len(set(..)) of ints. -/
namespace Mi
open PySem PySem.Spec PyProof.Rows L2
section
variable {Z : Ci} {W : WX} {G : Ga} {X : Cx}
theorem met_dedup {ns : List Int} : ∀ k, k ≤ ns.length → PyProof.Rows.firstMet (fun i => ns.getD i 0) k = dedup (ns.take k)
  | 0, _ => rfl
  | k + 1, h => by
    have hlt : k < ns.length := h
    have e1 : ns.getD k 0 = ns[k] := by
      rw [List.getD_eq_getElem?_getD, List.getElem?_eq_getElem hlt] <;> rfl
    have e2 : ns.take (k + 1) = ns.take k ++ [ns[k]] := by
      rw [List.take_add_one, List.getElem?_eq_getElem hlt] <;> rfl
    rw [PyProof.Rows.firstMet_succ, met_dedup k (Nat.le_of_lt hlt), e2]
    unfold dedup
    rw [List.foldl_append]
    show (if (List.foldl dd1 [] (ns.take k)).any (· == ns.getD k 0) then List.foldl dd1 [] (ns.take k) else List.foldl dd1 [] (ns.take k) ++ [ns.getD k 0]) = dd1 (List.foldl dd1 [] (ns.take k)) ns[k]
    rw [e1]
    rfl
theorem dedup_len : ∀ {ns acc : List Int}, (ns.foldl dd1 acc).length ≤ acc.length + ns.length
  | [], acc => by simp
  | n :: ns, acc => by
    show (ns.foldl dd1 (dd1 acc n)).length ≤ _
    have h1 := dedup_len (ns := ns) (acc := dd1 acc n)
    have h2 : (dd1 acc n).length ≤ acc.length + 1 := by unfold dd1; split <;> simp
    simp; omega
def tLenSet (ta : TE) : TE := fun σ H Q => ta σ H fun x H1 => ∃ (l : Addr) (ns : List Int), x = .ref l ∧ Rd H1 l (.lst (ns.map V.int)) ∧ ns.length ≤ 4000 ∧ Q (.int ((dedup ns).length : Nat)) H1
theorem pe_lenSet {a : Expr} {ta : TE} {p p2 q pos : Pos} (hg : Gl X "len") (hm : X.mg "len" = none) (hg2 : Gl X "set") (hm2 : X.mg "set" = none) (ha : PE X a ta) (hc : X.calm = true)
    (na : starEach [a] X.env = (false, eval a X.env) :: starEach [] X.env) : PE X (.Call (.Name "len" p) [.Call (.Name "set" p2) [a] [] q] [] pos) (tLenSet ta) := by
  refine ⟨fun pins s σ H Q I h => ?_⟩
  refine Call_ (ld_blt I hg hm boot_len ?_)
  refine PyProof.Rows.callWith_builtin1 (PyProof.Rows.args_cons ?_ rfl) rfl rfl
  refine Call_ (ld_blt I hg2 hm2 boot_set ?_)
  refine PyProof.Rows.callWith_type1 (PyProof.Rows.args_cons (thn (ha.run pins s σ H _ I h) fun v s1 ⟨x, H1, I1, r1, q1⟩ => PyProof.Rows.args_nil ?_) na) na rfl
  obtain ⟨l, ns, rfl, hq, hl, q1⟩ := q1
  cases r1
  obtain ⟨its, r, pl, hz⟩ := I1.list (.inl hq)
  have hlen : its.toArray.size = ns.length := by rw [List.size_toArray, ← r.length, List.length_map]
  refine call_set_list (I1.ok.hd hc) pl.isList (by simpa using RZ.intsAre_vals r) (by rw [hlen]; unfold scanBound; omega) fun h' tk hS hk => ?_
  refine PyProof.Rows.args_nil ?_
  rw [hlen, met_dedup ns.length (Nat.le_refl _), List.take_length] at hS
  obtain ⟨o, es, ep, t, ho, hex, hd, _, _, _, hf, hn⟩ := hS
  have I2 : Inv X pins σ H1 { s1 with heap := h', toks := tk } := I1.kept fun b o e => hk b o (Heap.lt_size e) e
  have hdl := dedup_len (ns := ns) (acc := [])
  have hdl : (dedup ns).length ≤ 4000 := by have : (dedup ns).length ≤ ([] : List Int).length + ns.length := hdl; simp at this; omega
  exact call_len_set ho hex hd hf (by rw [hn] <;> omega) ⟨.int (dedup ns).length, H1, I2.tok _, ⟨_, by rw [hn]⟩, q1⟩
theorem se_lenSet {s : Sq} {a : Expr} {p p2 q pos : Pos} (hg : Gl X "len") (hm : X.mg "len" = none) (hg2 : Gl X "set") (hm2 : X.mg "set" = none) (ha : OkQ X Z W G s a) (hc : X.calm = true) (h1 : starEach [a] X.env = [(false, eval a X.env)]) :
    PE X (.Call (.Name "len" p) [.Call (.Name "set" p2) [a] [] q] [] pos) (tE Z W G (.lenSet s)) := by
  refine (pe_lenSet hg hm hg2 hm2 ha.2.1 hc h1).imp fun σ H Q h => ?_
  refine (tG.bind (P := pL Z) (f := evl G s) (k := fun l _ S => match toInts l with | some ns => if ns.length ≤ 4000 then R.ok (D.int (dedup ns).length) S else .bad | none => .bad) (h.eq fun v S => by rw [ev] <;> rfl)).wk fun y H1 ⟨l, F1, ρ1, v1, S1, he, hs, ⟨b, vs, ex, hr, r⟩, q⟩ => ?_
  cases e : toInts l with
  | none => rw [e] at q; exact q.elim
  | some ns =>
    simp only [e] at q
    split at q
    · rename_i z
      obtain ⟨rfl, rfl⟩ := ints_reps e r
      exact ⟨b, ns, ex, hr, z, PostA.done (P := pV Z) q hs .int⟩
    · exact q.elim
end
end Mi

set_option Elab.async false
set_option linter.all false
set_option maxRecDepth 100000
set_option maxHeartbeats 4000000
/-! Mi, part 18d: zip over lists and tuples (after HandS.Zip0, HandS.Zip: each operand of either kind). -/
namespace Mi
open PySem PySem.Spec PyProof.Rows L2
open PySem.Sem (wp)
/-- an iterator over a tuple (true), a list (false) -/
def Ik (b : Bool) (h : Heap) (it l : Addr) (k : Nat) : Prop := match b with
  | true => h.IsTupleIter it l k
  | false => h.IsListIter it l k
def Sk (b : Bool) (h : Heap) (l : Addr) (xs : Array Value) : Prop := match b with
  | true => h.IsTuple l xs
  | false => h.IsList l xs
def itO (b : Bool) (l : Addr) : Obj := match b with
  | true => { cls := .type "tuple_iterator", data := .fields #[.ref l, .int 0 0] }
  | false => { cls := .type "list_iterator", data := .fields #[.ref l, .int 0 0] }
theorem Ik.ext {p : Bool} {h h' : Heap} {a b l : Addr} {k : Nat} (x : Ik p h a l k) (hs : Heap.ExtBut b h h') (ne : a ≠ b) : Ik p h' a l k := by
  cases p
  · exact Heap.IsListIter.extBut x hs ne
  · exact Heap.IsTupleIter.extBut x hs ne
theorem Ik.at1 {p : Bool} {h h' : Heap} {a l : Addr} {k : Nat} (x : Ik p h a l k) (e : ∀ o, h.get? a = some o → h'.get? a = some o) : Ik p h' a l k := by
  cases p
  · exact Heap.IsListIter.at x e
  · exact Heap.IsTupleIter.at x e
theorem Ik.obj {p : Bool} {h : Heap} {a l : Addr} {k : Nat} (x : Ik p h a l k) : ∃ o, h.get? a = some o ∧ ∀ v, o.data ≠ .cell v := by
  cases p
  · obtain ⟨o, e, c, d⟩ := x; exact ⟨o, e, fun v z => by rw [d] at z; cases z⟩
  · obtain ⟨o, e, c, d⟩ := x; exact ⟨o, e, fun v z => by rw [d] at z; cases z⟩
theorem Sk.ext {p : Bool} {h h' : Heap} {a b : Addr} {xs : Array Value} (x : Sk p h a xs) (hs : Heap.ExtBut b h h') (ne : a ≠ b) : Sk p h' a xs := by
  cases p
  · exact Heap.IsList.extBut x hs ne
  · exact Heap.IsTuple.extBut x hs ne
theorem Sk.push {p : Bool} {h : Heap} {a : Addr} {xs : Array Value} (x : Sk p h a xs) (o : Obj) : Sk p (h.push o) a xs := by
  cases p
  · exact Heap.IsList.push x o
  · exact Heap.IsTuple.push x o
theorem itO_free (p : Bool) (l : Addr) : (itO p l).isFreed = false := by cases p <;> rfl
theorem ik_new {p : Bool} {h : Heap} {a l : Addr} (e : h.get? a = some (itO p l)) : Ik p h a l 0 := by
  cases p
  · exact ⟨_, e, rfl, rfl⟩
  · exact ⟨_, e, rfl, rfl⟩
section
variable {prog : Program} {w : World} {A : Around} {E : Value → Shared → Prop} {s : Shared}
theorem nk_item {p : Bool} {it l : Addr} {i : Nat} {items} {x : Value} {Q : Value → Shared → Prop} (hit : Ik p s.heap it l i) (hl : Sk p s.heap l items) (hx : items[i]? = some x)
    (k : ∀ h', Ik p h' it l (i + 1) → Heap.SameBut it s.heap h' → Q x { s with heap := h' }) : wpAny (model prog w) A (Builtin.SmallTypes.nextOf (.ref it)) Q E s := by
  cases p
  · exact wpAny_nextOf_list_item hit hl hx k
  · exact RZ.nextOf_tuple_item hit hl hx k
theorem nk_end {p : Bool} {it l : Addr} {i : Nat} {items} {Q : Value → Shared → Prop} (hh : A.handled = none) (hit : Ik p s.heap it l i) (hl : Sk p s.heap l items) (hx : items[i]? = none)
    (k : ∀ h' e, Heap.ExtBut it s.heap h' → (∃ o, h'.get? e = some o ∧ o.cls = .type "StopIteration") → E (.ref e) { s with heap := h' }) : wpAny (model prog w) A (Builtin.SmallTypes.nextOf (.ref it)) Q E s := by
  cases p
  · exact wpAny_nextOf_list_end hh hit hl hx k
  · exact RZ.nextOf_tuple_end hh hit hl hx k
theorem pk_iter {p : Bool} {l : Addr} {items} {Q : Value → Shared → Prop} (hl : Sk p s.heap l items) (k : Q (.ref s.heap.objs.size) { s with heap := s.heap.push (itO p l) }) : wpAny (model prog w) A (pyIter (.ref l)) Q E s := by
  cases p
  · exact wpAny_pyIter_list hl k
  · exact wpAny_pyIter_tuple hl k
theorem zk_next_item {p q : Bool} {z TI TO i1 i2 l1 l2 : Addr} {k1 k2 : Nat} {xs ys : Array Value} {x y a b : Value} {Q : Value → Shared → Prop} (ap : ZipApart z TI TO i1 i2 l1 l2)
    (kz : IsZip s.heap z TI TO .none) (kI : IsPair s.heap TI (.ref i1) (.ref i2)) (kO : IsPair s.heap TO a b)
    (h1 : Ik p s.heap i1 l1 k1) (h2 : Ik q s.heap i2 l2 k2) (hl1 : Sk p s.heap l1 xs) (hl2 : Sk q s.heap l2 ys) (hx : xs[k1]? = some x) (hy : ys[k2]? = some y)
    (kQ : ∀ h', IsZip h' z TI TO (rawInt s.heap.objs.size) → IsPair h' TO x y → Ik p h' i1 l1 (k1 + 1) → Ik q h' i2 l2 (k2 + 1) → IsPair h' s.heap.objs.size x y → h'.objs.size = s.heap.objs.size + 1 →
      (∀ c o, c ≠ z → c ≠ TO → c ≠ i1 → c ≠ i2 → s.heap.get? c = some o → h'.get? c = some o) → Q (.ref s.heap.objs.size) { s with heap := h' }) :
    wpAny (model prog w) A (Builtin.«zip.__next__» ⟨[.ref z], []⟩) (fun fin s' => ∃ v, fin = .done (.ret v) ∧ Q v s') E s := by
  show wpAny _ _ (field (.ref z) 2 >>= _) _ _ _
  refine wpAny_bind (wpAny_field kz rfl (x := .bool false) rfl ?_)
  show wpAny _ _ (field (.ref z) 3 >>= _) _ _ _
  refine wpAny_bind (wpAny_field kz rfl (x := .ref TI) rfl ?_)
  refine wpAny_bind (wpAny_seqItems kI rfl ?_)
  show wpAny _ _ (Builtin.SmallTypes.ownedTupleIsFree (.ref z) >>= _) _ _ _
  refine wpAny_bind ?_
  unfold Builtin.SmallTypes.ownedTupleIsFree
  refine wpAny_bind (wpAny_field kz rfl (x := .none) rfl (wpAny_pure ?_))
  simp only [if_true]
  refine wpAny_bind (wpAny_rule ?_)
  refine wpAny_bind (wpAny_field kz rfl (x := .ref TO) rfl ?_)
  refine wpAny_bind (wpAny_setField_rec kz (by simp) fun h₁ kz₁ e₁ => ?_)
  replace kz₁ : IsZip h₁ z TI TO .ellipsis := kz₁
  refine wpAny_bind ?_
  simp only [List.zipIdx_cons, List.zipIdx_nil, List.forIn_cons, List.forIn_nil]

  refine wpAny_bind (wpAny_bind (wpAny_onRaise ?_))
  show wpAny _ _ (Builtin.SmallTypes.nextOf (.ref i1) >>= _) _ _ _
  refine wpAny_bind (nk_item (h1.ext e₁.extBut ap.i1z) (hl1.ext e₁.extBut ap.l1z) hx fun h₂ h1₂ e₂ => wpAny_pure ?_)
  have kO₂ : IsPair h₂ TO a b := e₂.extBut _ _ ap.TOi1 (e₁.extBut _ _ ap.TOz kO)
  refine wpAny_bind (wpAny_seqItems kO₂ rfl ?_)
  refine wpAny_bind (wpAny_updateSeq_pair kO₂ fun h₃ kO₃ e₃ => ?_)
  replace kO₃ : IsPair h₃ TO x b := kO₃
  refine wpAny_bind (wpAny_letGo (wpAny_pure ?_))

  refine wpAny_bind (wpAny_bind (wpAny_onRaise ?_))
  show wpAny _ _ (Builtin.SmallTypes.nextOf (.ref i2) >>= _) _ _ _
  refine wpAny_bind (nk_item (((h2.ext e₁.extBut ap.i2z).ext e₂.extBut ap.i12.symm).ext e₃.extBut ap.TOi2.symm)
    (((hl2.ext e₁.extBut ap.l2z).ext e₂.extBut ap.l2i1).ext e₃.extBut ap.l2TO) hy fun h₄ h2₄ e₄ => wpAny_pure ?_)
  have kO₄ : IsPair h₄ TO x b := e₄.extBut _ _ ap.TOi2 kO₃
  refine wpAny_bind (wpAny_seqItems kO₄ rfl ?_)
  refine wpAny_bind (wpAny_updateSeq_pair kO₄ fun h₅ kO₅ e₅ => ?_)
  replace kO₅ : IsPair h₅ TO x y := kO₅
  refine wpAny_bind (wpAny_letGo (wpAny_pure (wpAny_pure ?_)))

  refine wpAny_bind (wpAny_seqItems kO₅ rfl ?_)
  refine wpAny_bind (wpAny_newTuple ?_)
  have hsz : h₅.objs.size = s.heap.objs.size := by rw [e₅.1, e₄.1, e₃.1, e₂.1, e₁.1]
  have kz₅ : IsZip h₅ z TI TO .ellipsis := e₅.extBut _ _ ap.TOz.symm (e₄.extBut _ _ ap.i2z.symm (e₃.extBut _ _ ap.TOz.symm (e₂.extBut _ _ ap.i1z.symm kz₁)))
  have hk₅ : ∀ c o, c ≠ z → c ≠ TO → c ≠ i1 → c ≠ i2 → s.heap.get? c = some o → h₅.get? c = some o := fun c o c1 c2 c3 c4 e =>
    e₅.extBut _ _ c2 (e₄.extBut _ _ c4 (e₃.extBut _ _ c2 (e₂.extBut _ _ c3 (e₁.extBut _ _ c1 e))))
  have h1₅ : Ik p h₅ i1 l1 (k1 + 1) := ((h1₂.ext e₃.extBut ap.TOi1.symm).ext e₄.extBut ap.i12).ext e₅.extBut ap.TOi1.symm
  have h2₅ : Ik q h₅ i2 l2 (k2 + 1) := h2₄.ext e₅.extBut ap.TOi2.symm
  have kzlt : z < h₅.objs.size := Heap.lt_size kz₅
  have kOlt : TO < h₅.objs.size := Heap.lt_size kO₅
  have hi1lt : i1 < h₅.objs.size := by obtain ⟨_, e, _⟩ := h1₅.obj; exact Heap.lt_size e
  have hi2lt : i2 < h₅.objs.size := by obtain ⟨_, e, _⟩ := h2₅.obj; exact Heap.lt_size e
  show wpAny _ _ (Builtin.SmallTypes.ownedTupleHandOut (.ref z) (.ref h₅.objs.size) >>= _) _ _ _
  refine wpAny_bind ?_
  unfold Builtin.SmallTypes.ownedTupleHandOut
  have kz₆ : IsZip (h₅.push { cls := .type "tuple", data := .seq #[x, y] }) z TI TO .ellipsis := Heap.get?_push_of_some _ kz₅
  refine wpAny_bind (wpAny_setField_rec kz₆ (by simp) fun h₇ kz₇ e₇ => ?_)
  replace kz₇ : IsZip h₇ z TI TO (rawInt h₅.objs.size) := kz₇
  refine wpAny_setField_rec kz₇ (by simp) fun h₈ kz₈ e₈ => ?_
  replace kz₈ : IsZip h₈ z TI TO (rawInt h₅.objs.size) := kz₈
  have up : ∀ c o, c ≠ z → h₅.get? c = some o → h₈.get? c = some o := fun c o c1 e => e₈.extBut _ _ c1 (e₇.extBut _ _ c1 (Heap.get?_push_of_some _ e))
  have hT₈ : IsPair h₈ h₅.objs.size x y := e₈.extBut _ _ (Nat.ne_of_gt kzlt) (e₇.extBut _ _ (Nat.ne_of_gt kzlt) (Heap.get?_push_size _ rfl))
  have kz8 : h₈.objs.size = h₅.objs.size + 1 := by rw [e₈.1, e₇.1, Heap.size_push]
  rw [hsz] at kz₈ hT₈ kz8
  refine wpAny_pure ⟨_, rfl, ?_⟩
  show Q (.ref h₅.objs.size) _
  rw [hsz]
  exact kQ h₈ kz₈ (up _ _ ap.TOz kO₅) (h1₅.at1 fun o e => up _ o ap.i1z e) (h2₅.at1 fun o e => up _ o ap.i2z e) hT₈ kz8 fun c o c1 c2 c3 c4 e => up c o c1 (hk₅ c o c1 c2 c3 c4 e)

theorem zk_next_end {p q : Bool} {z TI TO i1 i2 l1 l2 : Addr} {k1 k2 : Nat} {xs ys : Array Value} {a b : Value} {Q : Fin → Shared → Prop} (hh : A.handled = none) (ap : ZipApart z TI TO i1 i2 l1 l2)
    (kz : IsZip s.heap z TI TO .none) (kI : IsPair s.heap TI (.ref i1) (.ref i2)) (kO : IsPair s.heap TO a b)
    (h1 : Ik p s.heap i1 l1 k1) (h2 : Ik q s.heap i2 l2 k2) (hl1 : Sk p s.heap l1 xs) (hl2 : Sk q s.heap l2 ys) (hend : xs[k1]? = none ∨ ys[k2]? = none)
    (kE : ∀ h' e, (∀ c o, c ≠ z → c ≠ TO → c ≠ i1 → c ≠ i2 → s.heap.get? c = some o → h'.get? c = some o) → (∃ o, h'.get? e = some o ∧ o.cls = .type "StopIteration") → E (.ref e) { s with heap := h' }) :
    wpAny (model prog w) A (Builtin.«zip.__next__» ⟨[.ref z], []⟩) Q E s := by
  show wpAny _ _ (field (.ref z) 2 >>= _) _ _ _
  refine wpAny_bind (wpAny_field kz rfl (x := .bool false) rfl ?_)
  show wpAny _ _ (field (.ref z) 3 >>= _) _ _ _
  refine wpAny_bind (wpAny_field kz rfl (x := .ref TI) rfl ?_)
  refine wpAny_bind (wpAny_seqItems kI rfl ?_)
  show wpAny _ _ (Builtin.SmallTypes.ownedTupleIsFree (.ref z) >>= _) _ _ _
  refine wpAny_bind ?_
  unfold Builtin.SmallTypes.ownedTupleIsFree
  refine wpAny_bind (wpAny_field kz rfl (x := .none) rfl (wpAny_pure ?_))
  simp only [if_true]
  refine wpAny_bind (wpAny_rule ?_)
  refine wpAny_bind (wpAny_field kz rfl (x := .ref TO) rfl ?_)
  refine wpAny_bind (wpAny_setField_rec kz (by simp) fun h₁ kz₁ e₁ => ?_)
  replace kz₁ : IsZip h₁ z TI TO .ellipsis := kz₁
  refine wpAny_bind ?_
  simp only [List.zipIdx_cons, List.zipIdx_nil, List.forIn_cons, List.forIn_nil]
  refine wpAny_bind (wpAny_bind (wpAny_onRaise ?_))
  show wpAny _ _ (Builtin.SmallTypes.nextOf (.ref i1) >>= _) _ _ _
  cases hx : xs[k1]? with
  | none =>
    refine wpAny_bind (nk_end hh (h1.ext e₁.extBut ap.i1z) (hl1.ext e₁.extBut ap.l1z) hx fun h₂ e e₂ he => ?_)
    obtain ⟨oe, ho, hcl⟩ := he
    have kz₂ : IsZip h₂ z TI TO .ellipsis := e₂ _ _ ap.i1z.symm kz₁
    have nez : e ≠ z := fun x => by subst x; rw [kz₂] at ho; cases ho; simp at hcl
    refine wpAny_setField_rec kz₂ (by simp) fun h₃ _ e₃ => kE h₃ e (fun c o c1 _ c3 _ x => e₃.extBut _ _ c1 (e₂ _ _ c3 (e₁.extBut _ _ c1 x))) ⟨oe, e₃.extBut _ _ nez ho, hcl⟩
  | some x =>
    have hy : ys[k2]? = none := by rcases hend with h | h; rw [hx] at h; cases h; exact h
    refine wpAny_bind (nk_item (h1.ext e₁.extBut ap.i1z) (hl1.ext e₁.extBut ap.l1z) hx fun h₂ h1₂ e₂ => wpAny_pure ?_)
    have kO₂ : IsPair h₂ TO a b := e₂.extBut _ _ ap.TOi1 (e₁.extBut _ _ ap.TOz kO)
    refine wpAny_bind (wpAny_seqItems kO₂ rfl ?_)
    refine wpAny_bind (wpAny_updateSeq_pair kO₂ fun h₃ kO₃ e₃ => ?_)
    refine wpAny_bind (wpAny_letGo (wpAny_pure ?_))
    refine wpAny_bind (wpAny_bind (wpAny_onRaise ?_))
    show wpAny _ _ (Builtin.SmallTypes.nextOf (.ref i2) >>= _) _ _ _
    refine wpAny_bind (nk_end hh (((h2.ext e₁.extBut ap.i2z).ext e₂.extBut ap.i12.symm).ext e₃.extBut ap.TOi2.symm)
      (((hl2.ext e₁.extBut ap.l2z).ext e₂.extBut ap.l2i1).ext e₃.extBut ap.l2TO) hy fun h₄ e e₄ he => ?_)
    obtain ⟨oe, ho, hcl⟩ := he
    have kz₄ : IsZip h₄ z TI TO .ellipsis := e₄ _ _ ap.i2z.symm (e₃.extBut _ _ ap.TOz.symm (e₂.extBut _ _ ap.i1z.symm kz₁))
    have nez : e ≠ z := fun x => by subst x; rw [kz₄] at ho; cases ho; simp at hcl
    refine wpAny_setField_rec kz₄ (by simp) fun h₅ _ e₅ => kE h₅ e (fun c o c1 c2 c3 c4 x => e₅.extBut _ _ c1 (e₄ _ _ c4 (e₃.extBut _ _ c2 (e₂.extBut _ _ c3 (e₁.extBut _ _ c1 x))))) ⟨oe, e₅.extBut _ _ nez ho, hcl⟩

theorem pyNext_zk_item {p q : Bool} {z TI TO i1 i2 l1 l2 : Addr} {k1 k2 : Nat} {xs ys : Array Value} {x y a b : Value} {Q : Option Value → Shared → Prop} (ap : ZipApart z TI TO i1 i2 l1 l2)
    (kz : IsZip s.heap z TI TO .none) (kI : IsPair s.heap TI (.ref i1) (.ref i2)) (kO : IsPair s.heap TO a b)
    (h1 : Ik p s.heap i1 l1 k1) (h2 : Ik q s.heap i2 l2 k2) (hl1 : Sk p s.heap l1 xs) (hl2 : Sk q s.heap l2 ys) (hx : xs[k1]? = some x) (hy : ys[k2]? = some y)
    (kQ : ∀ h', IsZip h' z TI TO (rawInt s.heap.objs.size) → IsPair h' TO x y → Ik p h' i1 l1 (k1 + 1) → Ik q h' i2 l2 (k2 + 1) → IsPair h' s.heap.objs.size x y → h'.objs.size = s.heap.objs.size + 1 →
      (∀ c o, c ≠ z → c ≠ TO → c ≠ i1 → c ≠ i2 → s.heap.get? c = some o → h'.get? c = some o) → Q (some (.ref s.heap.objs.size)) { s with heap := h' }) :
    wpAny (model prog w) A (pyNext (.ref z)) Q E s := by
  have hT : s.TypeIs (.ref z) "zip" := ⟨_, kz, rfl⟩
  unfold pyNext
  exact wpAny_bind (wpAny_attempt (wpAny_callSpecial?_slot (name := Str.ofString "__next__") hT F.slot_zip_next
    (wpAny_call_entry F.slot_zip_next hT F.entry_zip_next
      (zk_next_item ap kz kI kO h1 h2 hl1 hl2 hx hy fun h' a1 a2 a3 a4 a5 a6 a7 => wpAny_pure (kQ h' a1 a2 a3 a4 a5 a6 a7)) (F.args_zip_next_1 _))))

theorem pyNext_zk_end {p q : Bool} {z TI TO i1 i2 l1 l2 : Addr} {k1 k2 : Nat} {xs ys : Array Value} {a b : Value} {Q : Option Value → Shared → Prop} (hh : A.handled = none) (ap : ZipApart z TI TO i1 i2 l1 l2)
    (kz : IsZip s.heap z TI TO .none) (kI : IsPair s.heap TI (.ref i1) (.ref i2)) (kO : IsPair s.heap TO a b)
    (h1 : Ik p s.heap i1 l1 k1) (h2 : Ik q s.heap i2 l2 k2) (hl1 : Sk p s.heap l1 xs) (hl2 : Sk q s.heap l2 ys) (hend : xs[k1]? = none ∨ ys[k2]? = none)
    (kQ : ∀ h', (∀ c o, c ≠ z → c ≠ TO → c ≠ i1 → c ≠ i2 → s.heap.get? c = some o → h'.get? c = some o) → Q none { s with heap := h' }) : wpAny (model prog w) A (pyNext (.ref z)) Q E s := by
  have hT : s.TypeIs (.ref z) "zip" := ⟨_, kz, rfl⟩
  unfold pyNext
  refine wpAny_bind (wpAny_attempt (wpAny_callSpecial?_slot (name := Str.ofString "__next__") hT F.slot_zip_next
    (wpAny_call_entry F.slot_zip_next hT F.entry_zip_next (zk_next_end hh ap kz kI kO h1 h2 hl1 hl2 hend fun h' e hk he => ?_) (F.args_zip_next_1 _))))
  obtain ⟨o, ho, hc⟩ := he
  refine wpAny_bind (wpAny_isInstance (T := "StopIteration") (b := true) ⟨o, ho, hc⟩ isSubtype_stop ?_)
  exact wpAny_pure (kQ _ hk)
end

abbrev zkH1 (p q : Bool) (h : Heap) (l1 : Addr) : Heap := h.push (itO p l1)
abbrev zkH2 (p q : Bool) (h : Heap) (l1 l2 : Addr) : Heap := (zkH1 p q h l1).push (itO q l2)
abbrev zkH3 (p q : Bool) (h : Heap) (l1 l2 : Addr) : Heap := (zkH2 p q h l1 l2).push { cls := .type "tuple", data := .seq #[.ref h.objs.size, .ref (zkH1 p q h l1).objs.size] }
abbrev zkH4 (p q : Bool) (h : Heap) (l1 l2 : Addr) : Heap := (zkH3 p q h l1 l2).push { cls := .type "tuple", data := .seq #[.none, .none] }
abbrev zkH5 (p q : Bool) (h : Heap) (l1 l2 : Addr) : Heap := (zkH4 p q h l1 l2).push { cls := .type "zip", data := .fields #[.none, .bool false, .bool false, .ref (zkH2 p q h l1 l2).objs.size, .ref (zkH3 p q h l1 l2).objs.size] }

theorem meets_zk_new (p q : Bool) (l1 l2 : Addr) (xs ys : Array Value) :
    Meets (Builtin.«zip.__new__» ⟨[.type "zip", .ref l1, .ref l2], []⟩) (fun _ R s => Sk p s.heap l1 xs ∧ Sk q s.heap l2 ys ∧
      R (.ok (.ret (.ref (zkH4 p q s.heap l1 l2).objs.size))) { s with heap := zkH5 p q s.heap l1 l2 }) :=
  .of_wp fun prog w A R s h => by
    obtain ⟨hp, g, d, tk, os⟩ := s; obtain ⟨hl1, hl2, h⟩ := h
    have hsub := sub_zip
    have hL1 : Sk p (Shared.heap ⟨hp, g, d, tk, os⟩) l1 xs := hl1
    have hL2 : Sk q (Shared.heap ⟨hp.push (itO p l1), g, d, tk, os⟩) l2 ys := Sk.push hl2 _
    wp_walk using pk_iter hL1, pk_iter hL2
    exact ⟨_, rfl, h⟩

section
variable {prog : Program} {w : World} {A : Around} {E : Value → Shared → Prop} {s : Shared}

theorem call_zk {p q : Bool} {l1 l2 : Addr} {xs ys : Array Value} {Q : Value → Shared → Prop} (hl1 : Sk p s.heap l1 xs) (hl2 : Sk q s.heap l2 ys)
    (h : ∀ h', IsZip h' (s.heap.objs.size + 4) (s.heap.objs.size + 2) (s.heap.objs.size + 3) .none → IsPair h' (s.heap.objs.size + 2) (.ref s.heap.objs.size) (.ref (s.heap.objs.size + 1)) →
      IsPair h' (s.heap.objs.size + 3) .none .none → Ik p h' s.heap.objs.size l1 0 → Ik q h' (s.heap.objs.size + 1) l2 0 → h'.objs.size = s.heap.objs.size + 5 →
      (∀ c o, s.heap.get? c = some o → h'.get? c = some o) → Q (.ref (s.heap.objs.size + 4)) { s with heap := h' }) :
    wpAny (model prog w) A (call (.type "zip") [.ref l1, .ref l2]) Q E s := by
  refine callType_new F.called_zip (by decide) (F.typeCall_zip_2 _ _) (F.newCall_zip_2 _ _) (fun obj => F.args_object_init_3 obj _ _) F.entry_zip_new
    (meets_zk_new p q l1 l2 xs ys) ⟨hl1, hl2, ?_⟩
  have z1 : (zkH1 p q s.heap l1).objs.size = s.heap.objs.size + 1 := Heap.size_push ..
  have z2 : (zkH2 p q s.heap l1 l2).objs.size = s.heap.objs.size + 2 := by rw [Heap.size_push, z1]
  have z3 : (zkH3 p q s.heap l1 l2).objs.size = s.heap.objs.size + 3 := by rw [Heap.size_push, z2]
  have z4 : (zkH4 p q s.heap l1 l2).objs.size = s.heap.objs.size + 4 := by rw [Heap.size_push, z3]
  have z5 : (zkH5 p q s.heap l1 l2).objs.size = s.heap.objs.size + 5 := by rw [Heap.size_push, z4]
  have g5 : (zkH5 p q s.heap l1 l2).get? (zkH4 p q s.heap l1 l2).objs.size = some _ := Heap.get?_push_size _ rfl
  have g4 : (zkH5 p q s.heap l1 l2).get? (zkH3 p q s.heap l1 l2).objs.size = some _ := Heap.get?_push_of_some _ (Heap.get?_push_size _ rfl)
  have g3 : (zkH5 p q s.heap l1 l2).get? (zkH2 p q s.heap l1 l2).objs.size = some _ := Heap.get?_push_of_some _ (Heap.get?_push_of_some _ (Heap.get?_push_size _ rfl))
  have g2 : (zkH5 p q s.heap l1 l2).get? (zkH1 p q s.heap l1).objs.size = some _ := Heap.get?_push_of_some _ (Heap.get?_push_of_some _ (Heap.get?_push_of_some _ (Heap.get?_push_size _ (itO_free q l2))))
  have g1 : (zkH5 p q s.heap l1 l2).get? s.heap.objs.size = some _ := Heap.get?_push_of_some _ (Heap.get?_push_of_some _ (Heap.get?_push_of_some _ (Heap.get?_push_of_some _ (Heap.get?_push_size _ (itO_free p l1)))))
  show _ ∧ _
  rw [z2, z3, z4] at g5
  rw [z1, z2] at g3
  rw [z3] at g4
  rw [z1] at g2
  rw [z4]
  exact ⟨⟨_, g5, rfl⟩, h _ g5 g3 g4 (ik_new g1) (ik_new g2) z5 fun c o x =>
    Heap.get?_push_of_some _ (Heap.get?_push_of_some _ (Heap.get?_push_of_some _ (Heap.get?_push_of_some _ (Heap.get?_push_of_some _ x))))⟩
end

/-- a list, a tuple that is known -/
def SqK (p : Bool) (K : PySem.W.Frag) (H : Hp) (a : Addr) (xs : List V) : Prop := match p with
  | true => SqT K H a xs
  | false => SqL K H a xs
theorem sqk {X : Cx} {pins : List (Addr × Obj)} {σ : L2.St} {H : Hp} {s : Shared} {p : Bool} {a : Addr} {xs : List V} (I : Inv X pins σ H s) (h : SqK p X.K H a xs) : ∃ its : List Value, Vals xs its ∧ Sk p s.heap a its.toArray ∧ xs.length ≤ sizeLine := by
  cases p
  · obtain ⟨its, rv, pl, z⟩ := I.list h; exact ⟨its, rv, pl.isList, z⟩
  · obtain ⟨its, rv, pl, z⟩ := I.tuple h; exact ⟨its, rv, pl, z⟩
theorem sqk_inj {X : Cx} {pins : List (Addr × Obj)} {σ : L2.St} {H : Hp} {s : Shared} {p : Bool} {a : Addr} {xs ys : List V} (I : Inv X pins σ H s) (h : SqK p X.K H a xs) (h' : SqK p X.K H a ys) : xs = ys := by
  cases p
  · exact I.list_inj h h'
  · exact I.tuple_inj h h'
def Itk2 (p q : Bool) (K : PySem.W.Frag) (a b : Addr) : It :=
  ⟨fun i H => ∃ (xs ys : List V) (x y : V), SqK p K H a xs ∧ SqK q K H b ys ∧ xs[i]? = some x ∧ ys[i]? = some y,
    fun i H v H' => ∃ T x y, v = .ref T ∧ H T = none ∧ H' = upd H T (.tup [x, y]) ∧ (∀ xs, SqK p K H a xs → xs[i]? = some x) ∧ ∀ ys, SqK q K H b ys → ys[i]? = some y,
    fun i H => ∃ xs ys : List V, SqK p K H a xs ∧ SqK q K H b ys ∧ (xs.length ≤ i ∨ ys.length ≤ i)⟩
theorem turn_zk {p q : Bool} {P : Program} {w : World} {K : PySem.W.Frag} {elts : List Expr} {kk : Nat} {tpos : Pos} {a b z TI TO i1 i2 : Addr} (ap : ZipApart z TI TO i1 i2 a b) :
    Turn P w K (.Tuple elts kk tpos) (Itk2 p q K a b) [z, TI, TO, i1, i2] z (fun i h => IsZip h z TI TO .none ∧ IsPair h TI (.ref i1) (.ref i2) ∧ (∃ x y, IsPair h TO x y) ∧ Ik p h i1 a i ∧ Ik q h i2 b i) where
  mem := by simp
  obj := fun i h st c hc => by
    obtain ⟨kz, kI, ⟨x, y, kO⟩, j1, j2⟩ := st
    obtain ⟨o1, e1, d1⟩ := j1.obj
    obtain ⟨o2, e2, d2⟩ := j2.obj
    have e' : c = z ∨ c = TI ∨ c = TO ∨ c = i1 ∨ c = i2 := by simpa using hc
    rcases e' with q | q | q | q | q
    · rw [q]; exact ⟨_, kz, fun v q => nomatch q⟩
    · rw [q]; exact ⟨_, kI, fun v q => nomatch q⟩
    · rw [q]; exact ⟨_, kO, fun v q => nomatch q⟩
    · rw [q]; exact ⟨o1, e1, d1⟩
    · rw [q]; exact ⟨o2, e2, d2⟩
  keep := fun i h h' st k => by
    obtain ⟨kz, kI, ⟨x, y, kO⟩, h1, h2⟩ := st
    exact ⟨k z (by simp) _ kz, k TI (by simp) _ kI, ⟨x, y, k TO (by simp) _ kO⟩, h1.at1 fun o q => k i1 (by simp) o q, h2.at1 fun o q => k i2 (by simp) o q⟩
  item := by
    intro X hP hw hK hc i pins s σ H E I hf st hg
    subst hP hw hK
    obtain ⟨kz, kI, ⟨x0, y0, kO⟩, h1, h2⟩ := st
    obtain ⟨xs, ys, x, y, hqx, hqy, hx, hy⟩ := hg
    obtain ⟨its, rv, p, _⟩ := sqk I hqx
    obtain ⟨its2, rv2, p2, _⟩ := sqk I hqy
    obtain ⟨u, hu, ru⟩ := rv.get hx
    obtain ⟨u2, hu2, ru2⟩ := rv2.get hy
    have ltz : z < s.heap.objs.size := Heap.lt_size kz
    refine pyNext_zk_item ap kz kI kO h1 h2 p p2 (x := u) (y := u2) (by simpa using hu) (by simpa using hu2) fun h' z' TO' h1' h2' hT hsz hk => ?_
    refine ⟨_, rfl, wpAny_letOwnedTupleGo_zip (s := { s with heap := h' }) z' fun h'' z'' sb => ?_⟩
    have hT2 : h''.get? s.heap.objs.size = some { cls := .type "tuple", data := .seq #[u, u2] } := (sb.2 _ (Nat.ne_of_gt ltz)).trans hT
    have new : ObjOk X.prog X.w (upd H s.heap.objs.size (.tup [x, y])) h'' s.heap.objs.size (.tup [x, y]) :=
      ⟨by show 2 ≤ sizeLine; decide, [u, u2], .cons ru (.cons ru2 .nil), ⟨_, hT2, rfl, _, rfl⟩⟩
    have I1 : Inv X pins σ (upd H s.heap.objs.size (.tup [x, y])) { s with heap := h'' } :=
      I.turnedNew (t' := s.toks) (ch := [z, TI, TO, i1, i2]) (fun c o hb q => (sb.2 c (fun q' => hb (by simp [q']))).trans (hk c o (fun q' => hb (by simp [q'])) (fun q' => hb (by simp [q'])) (fun q' => hb (by simp [q'])) (fun q' => hb (by simp [q'])) q)) hf (Nat.le_refl _) new
    refine ⟨.ref s.heap.objs.size, _, I1, rfl, ⟨_, x, y, rfl, I.hok.fresh (Nat.le_refl _), rfl, fun l hl => by rw [sqk_inj I hl hqx]; exact hx, fun l hl => by rw [sqk_inj I hl hqy]; exact hy⟩, ⟨z'', ?_, ⟨u, u2, ?_⟩, ?_, ?_⟩, fun c hcm => ?_⟩
    · exact (sb.2 _ ap.TIz).trans (hk _ _ ap.TIz ap.TITO ap.TIi1 ap.TIi2 kI)
    · exact (sb.2 _ ap.TOz).trans TO'
    · exact h1'.at1 fun o q => (sb.2 _ ap.i1z).trans q
    · exact h2'.at1 fun o q => (sb.2 _ ap.i2z).trans q
    · have hlt : c < s.heap.objs.size := by
        have e' : c = z ∨ c = TI ∨ c = TO ∨ c = i1 ∨ c = i2 := by simpa using hcm
        rcases e' with q | q | q | q | q
        · rw [q]; exact ltz
        · rw [q]; exact Heap.lt_size kI
        · rw [q]; exact Heap.lt_size kO
        · rw [q]; obtain ⟨_, e1, _⟩ := h1.obj; exact Heap.lt_size e1
        · rw [q]; obtain ⟨_, e2, _⟩ := h2.obj; exact Heap.lt_size e2
      rw [upd_ne (Nat.ne_of_lt hlt)]
      exact (hf c hcm).1
  done := by
    intro X hP hw hK hc i pins s σ H E I hf st hg
    subst hP hw hK
    obtain ⟨kz, kI, ⟨x0, y0, kO⟩, h1, h2⟩ := st
    obtain ⟨xs, ys, hqx, hqy, hend⟩ := hg
    obtain ⟨its, rv, p, _⟩ := sqk I hqx
    obtain ⟨its2, rv2, p2, _⟩ := sqk I hqy
    have l1 := rv.length
    have l2 := rv2.length
    have he : its.toArray[i]? = none ∨ its2.toArray[i]? = none := by
      rcases hend with q | q
      · exact .inl (by simp; omega)
      · exact .inr (by simp; omega)
    exact pyNext_zk_end (I.ok.hd hc) ap kz kI kO h1 h2 p p2 he fun h' hk => ⟨rfl, I.turnedL (t' := s.toks) (ch := [z, TI, TO, i1, i2]) (fun c o hb q =>
      hk c o (fun q' => hb (by simp [q'])) (fun q' => hb (by simp [q'])) (fun q' => hb (by simp [q'])) (fun q' => hb (by simp [q'])) q) hf⟩
  self := fun A i s Q E st h => wpAny_pyIter_zip st.1 h

end Mi

set_option Elab.async false
set_option linter.all false
set_option maxRecDepth 100000
set_option maxHeartbeats 4000000
/-! Mi, part 18e: zip, enumerate as walks. -/
namespace Mi
open PySem PySem.Spec PyProof.Rows L2
section
variable {Z : Ci} {W : WX} {G : Ga} {X : Cx}
def iZk (K : PySem.W.Frag) (ta : TA) : TI := fun σ H R => ta σ H fun vs H1 => ∃ (p q : Bool) (a b : Addr) (xs ys : List V), vs = [.ref a, .ref b] ∧ SqK p K H1 a xs ∧ SqK q K H1 b ys ∧ R (Itk2 p q K a b) H1
theorem sk_lt {p : Bool} {h : Heap} {a : Addr} {xs : Array Value} (x : Sk p h a xs) : a < h.objs.size := by
  cases p
  · obtain ⟨o, e, _⟩ := x; exact Heap.lt_size e
  · obtain ⟨o, e, _⟩ := x; exact Heap.lt_size e
theorem pi_zk {e e2 : Expr} {ta : TA} {p pos tpos : Pos} {elts : List Expr} {kk : Nat} (hg : Gl X "zip") (hm : X.mg "zip" = none) (ha : PA X [e, e2] ta) (hs : starEach [e, e2] X.env = (false, eval e X.env) :: starEach [e2] X.env) (hpl : (backTo pos (starEach [e2] X.env)).any (·.1) = false) :
    PI X (.Tuple elts kk tpos) (.Call (.Name "zip" p) [e, e2] [] pos) (iZk X.K ta) := by
  refine ⟨fun pins s σ H R I h => ?_⟩
  refine Call_ (ld_blt I hg hm PyProof.Rows.boot_zip (PyProof.Rows.callWith_type1 (thn (ha.run pos pins s σ H _ I h) fun us s1 ⟨vs, H1, I1, r1, q1⟩ => ?_) hs hpl))
  obtain ⟨kp, kq, a, b, xs, ys, rfl, hqx, hqy, q⟩ := q1
  cases r1 with
  | cons r rr =>
    cases rr with
    | cons r' rr =>
      cases rr
      cases r
      cases r'
      obtain ⟨its, rv, p1, _⟩ := sqk I1 hqx
      obtain ⟨its2, rv2, p2, _⟩ := sqk I1 hqy
      have fresh5 : ∀ c, c ∈ [s1.heap.objs.size + 4, s1.heap.objs.size + 2, s1.heap.objs.size + 3, s1.heap.objs.size, s1.heap.objs.size + 1] → FpOk X pins H1 c := fun c hcm => by
        have hle : s1.heap.objs.size ≤ c := by
          simp at hcm; omega
        exact I1.fpOk hle (I1.hok.fresh hle)
      refine call_zk p1 p2 fun h' kz kI kO h1 h2 hsz hk => wpAny_pyIter_zip kz ?_
      have I2 : Inv X pins σ H1 { s1 with heap := h' } := I1.kept (t' := s1.toks) hk
      exact ⟨s1.heap.objs.size + 4, [s1.heap.objs.size + 4, s1.heap.objs.size + 2, s1.heap.objs.size + 3, s1.heap.objs.size, s1.heap.objs.size + 1], _, _, H1, rfl, I2, turn_zk (PySem.W.ktu_apart s1.heap.objs.size a b (sk_lt p1) (sk_lt p2)), ⟨kz, kI, ⟨_, _, kO⟩, h1, h2⟩, fresh5, q⟩
theorem walk_zk {p q : Bool} {K : PySem.W.Frag} {a b : Addr} {xs ys : List V} {n : Nat} (hn : n = min xs.length ys.length) : Walk (Itk2 p q K a b) n (fun H => SqK p K H a xs ∧ SqK q K H b ys) (YPair (fun i => xs[i]?) (fun i => ys[i]?)) := by
  subst hn
  refine ⟨fun i _ hi r => ?_, fun _ r => ⟨xs, ys, r.1, r.2, by omega⟩, fun i H v H' _ r y => ?_⟩
  · have h1 : i < xs.length := by omega
    have h2 : i < ys.length := by omega
    exact ⟨xs, ys, xs[i], ys[i], r.1, r.2, by simp [h1], by simp [h2]⟩
  · obtain ⟨T, x, z, h1, h2, h3, h4, h5⟩ := y
    exact ⟨T, x, z, h1, h2, h3, h4 xs r.1, h5 ys r.2⟩
theorem zipD_len : ∀ l m : List D, (zipD l m).length = min l.length m.length
  | [], m => by simp [zipD]
  | _ :: _, [] => by simp [zipD]
  | x :: l, y :: m => by simp [zipD, zipD_len l m]
theorem zipD_get : ∀ {l m : List D} {i : Nat} {x y : D}, l[i]? = some x → m[i]? = some y → (zipD l m)[i]? = some (.tup [x, y])
  | [], m, i, x, y, h, _ => by simp at h
  | _ :: _, [], i, x, y, _, h => by simp at h
  | a :: l, b :: m, 0, x, y, h1, h2 => by simp at h1 h2; subst h1 h2; rfl
  | a :: l, b :: m, i + 1, x, y, h1, h2 => by simpa [zipD] using zipD_get (i := i) (by simpa using h1) (by simpa using h2)
theorem numb_len : ∀ (l : List D) (i : Int), (numb i l).length = l.length
  | [], _ => rfl
  | x :: l, i => by simp [numb, numb_len l]
theorem numb_get : ∀ {l : List D} {j : Int} {i : Nat} {x : D}, l[i]? = some x → (numb j l)[i]? = some (.tup [.int (j + i), x])
  | [], j, i, x, h => by simp at h
  | a :: l, j, 0, x, h => by simp at h; subst h; simp [numb]
  | a :: l, j, i + 1, x, h => by
    have := numb_get (j := j + 1) (i := i) (x := x) (by simpa using h)
    show (numb (j + 1) l)[i]? = _
    rw [this, show j + 1 + (i : Int) = j + ((i + 1 : Nat) : Int) by omega]
/-- a new pair -/
theorem pair_rep {F H : Hp} {ρ : List Addr} {S : Sto} {T : Addr} {x y : V} {dx dy : D} (s : StoR Z F ρ S H) (hT : H T = none) (rx : Rep Z F ρ dx x) (ry : Rep Z F ρ dy y) : ∃ F2, Ext nO F ρ H F2 ρ (upd H T (.tup [x, y])) ∧ StoR Z F2 ρ S (upd H T (.tup [x, y])) ∧ Rep Z F2 ρ (.tup [dx, dy]) (.ref T) := by
  have e : Ext nO F ρ H (upd F T (.tup [x, y])) ρ (upd H T (.tup [x, y])) := Ext.laid hT s.le
  exact ⟨_, e, s.laid hT, .tup (.inl (.inl upd_same)) (e.reps (.cons rx (.cons ry .nil)))⟩
/-- an operand, of its kind, while all but O stands -/
theorem sqk_of {O : Addr → Prop} {F H : Hp} {ρ : List Addr} {S : Sto} {a : Addr} {vs : List V} (hK : X.K = Z.K) (h : Rd F a (.lst vs) ∨ ((∀ b, ¬ O b) ∧ Rd H a (.lst vs)) ∨ SqT Z.K F a vs) (s : StoR Z F ρ S H) : ∃ p, ∀ F1 ρ1 S1 H1, Ext O F ρ H F1 ρ1 H1 → StoR Z F1 ρ1 S1 H1 → SqK p X.K H1 a vs := by
  rcases qQ_seq (X := X) (F1 := F) (ρ1 := ρ) (S1 := S) (H1 := H) hK h s with z | z
  · exact ⟨false, fun F1 ρ1 S1 H1 e s1 => .inl (z F1 ρ1 S1 H1 e s1)⟩
  · exact ⟨true, fun F1 ρ1 S1 H1 e s1 => z F1 ρ1 S1 H1 e s1⟩
theorem qQ.step {O : Addr → Prop} {l : List D} {x : V} {F H F1 H1 : Hp} {ρ ρ1 : List Addr} {S : Sto} (e : Ext nO F ρ H F1 ρ1 H1) (s : StoR Z F ρ S H) (p : qQ Z O l x F ρ H) : qQ Z O l x F1 ρ1 H1 := by
  obtain ⟨a, vs, rfl, h, r⟩ := p
  refine ⟨a, vs, rfl, ?_, e.reps r⟩
  rcases h with h | ⟨h1, h⟩ | h
  · exact .inl (rdM e.le h)
  · exact .inr (.inl ⟨h1, rd_ext e s (fun q => q) h⟩)
  · exact .inr (.inr (seqT e.le h))
theorem si_zip {s t : Sq} {a b : Expr} {O : Addr → Prop} {elts : List Expr} {kk : Nat} {tpos p pos : Pos} (hK : X.K = Z.K) (hg : Gl X "zip") (hm : X.mg "zip" = none) (ha : PE X a (tQo Z W G O s)) (hb : PE X b (tQo Z W G O t)) (h2 : starEach [a, b] X.env = (false, eval a X.env) :: starEach [b] X.env) (h1 : starEach [b] X.env = [(false, eval b X.env)]) :
    PI X (.Tuple elts kk tpos) (.Call (.Name "zip" p) [a, b] [] pos) (tI Z W G O (.zip s t)) := by
  refine ⟨fun pins st σ H Rr I h => (pi_zk hg hm (pa_two ha hb h2 h1) h2 (by rw [h1]; rfl)).run pins st σ H Rr I ?_⟩
  refine (tG.bind2 (f := evq G s) (g := evq G t) (k := fun l m _ S => R.ok (zipD l m) S) (P := qQ Z O) (P' := qQ Z O) (fun a b F ρ H F1 ρ1 H1 S e s p => qQ.step e s p) (h.eq fun v S => by rw [evt])).wk fun x H1 h1 => tG.wk h1 fun y H2 ⟨l, m, F2, ρ2, v2, S2, he, hs, p1, p2, q⟩ => ?_
  obtain ⟨c1, vs1, rfl, g1, r1⟩ := p1
  obtain ⟨c2, vs2, rfl, g2, r2⟩ := p2
  obtain ⟨k1, z1⟩ := sqk_of (X := X) hK g1 hs
  obtain ⟨k2, z2⟩ := sqk_of (X := X) hK g2 hs
  refine ⟨k1, k2, c1, c2, vs1, vs2, rfl, z1 _ _ _ _ .refl hs, z2 _ _ _ _ .refl hs, PostA.done (P := pI Z O) q hs ⟨_, _, walk_len (walk_zk rfl) (by rw [zipD_len, r1.len, r2.len]), fun F1 ρ1 S1 H1 e s1 => ⟨z1 _ _ _ _ e s1, z2 _ _ _ _ e s1⟩, fun i Hc x H' F1 ρ1 S1 e s1 hi yy => ?_⟩⟩
  obtain ⟨T, u, w, rfl, hT, rfl, hu, hw⟩ := yy
  obtain ⟨d1, e1, q1⟩ := nth_of (e.reps r1) hu
  obtain ⟨d2, e2, q2⟩ := nth_of (e.reps r2) hw
  obtain ⟨F3, x1, x2, x3⟩ := pair_rep s1 hT q1 q2
  exact ⟨F3, _, x1, x2, zipD_get e1 e2, x3⟩
/-- lists only -/
def qL (Z : Ci) (O : Addr → Prop) : List D → V → Hp → List Addr → Hp → Prop := fun l x F ρ H => ∃ a vs, x = .ref a ∧ (Rd F a (.lst vs) ∨ ((∀ b, ¬ O b) ∧ Rd H a (.lst vs))) ∧ Reps Z F ρ l vs
abbrev tLo (Z : Ci) (W : WX) (G : Ga) (O : Addr → Prop) (s : Sq) : TE := tG Z W (evl G s) (qL Z O)
theorem slo_of {s : Sq} {a : Expr} {O : Addr → Prop} (h : OkQ X Z W G s a) (ho : noOwn s = true ∨ ∀ b, ¬ O b) (hx : ∀ e, s = .ex e → PE X a (tE Z W G e)) : PE X a (tLo Z W G O s) := by
  cases s with
  | own i =>
    have ho : ∀ b, ¬ O b := ho.resolve_left (by simp [noOwn])
    refine h.2.1.imp fun σ H Q ⟨F, ρ, v, S, he, hs, hp⟩ => ⟨F, ρ, v, S, he, hs, hp.mono fun l x F' ρ' H' _ p k => k x ?_⟩
    obtain ⟨a, vs, ex, h, r⟩ := p
    exact ⟨a, vs, ex, .inr ⟨ho, h⟩, r⟩
  | ex e =>
    refine (hx e rfl).imp fun σ H Q q => ?_
    refine tG.map (P := pV Z) (k := fun x S => match x with | .lst l => R.ok l S | _ => .bad) (q.eq fun v S => by rw [evl] <;> rfl) fun d b F ρ H S hs p => ?_
    cases p with
    | lst h1 r => exact .inl ⟨_, rfl, _, _, rfl, .inl h1, r⟩
    | _ => exact .inr rfl
theorem si_enum {s : Sq} {a : Expr} {O : Addr → Prop} {elts : List Expr} {kk : Nat} {tpos p pos : Pos} (hg : Gl X "enumerate") (hm : X.mg "enumerate" = none) (ha : PE X a (tLo Z W G O s)) (h1 : starEach [a] X.env = [(false, eval a X.env)]) :
    PI X (.Tuple elts kk tpos) (.Call (.Name "enumerate" p) [a] [] pos) (tI Z W G O (.enum s)) := by
  refine ⟨fun pins st σ H Rr I h => (pi_enum hg hm (pa_one ha h1) h1).run pins st σ H Rr I ?_⟩
  refine (tG.bind (f := evl G s) (k := fun l _ S => R.ok (numb 0 l) S) (P := qL Z O) (h.eq fun v S => by rw [evt])).wk fun x H1 ⟨l, F2, ρ2, v2, S2, he, hs, p1, q⟩ => ?_
  obtain ⟨c1, vs1, rfl, g1, r1⟩ := p1
  have z1 : ∀ F1 ρ1 S1 H1', Ext O F2 ρ2 H1 F1 ρ1 H1' → StoR Z F1 ρ1 S1 H1' → SqL X.K H1' c1 vs1 := fun F1 ρ1 S1 H1' e s1 => by
    rcases g1 with g | ⟨ho, g⟩
    · exact .inl (rdM s1.le (rdM e.le g))
    · exact .inl (rd_ext e hs (ho c1) g)
  refine ⟨c1, vs1, rfl, z1 _ _ _ _ .refl hs, PostA.done (P := pI Z O) q hs ⟨_, _, walk_len walk_enum (by rw [numb_len, r1.len]), fun F1 ρ1 S1 H1 e s1 => z1 _ _ _ _ e s1, fun i Hc x H' F1 ρ1 S1 e s1 hi yy => ?_⟩⟩
  obtain ⟨T, u, w, rfl, hT, rfl, hu, hw⟩ := yy
  obtain ⟨d2, e2, q2⟩ := nth_of (e.reps r1) hw
  cases hu
  obtain ⟨F3, x1, x2, x3⟩ := pair_rep s1 hT (.int (i := (i : Nat))) q2
  refine ⟨F3, _, x1, x2, ?_, x3⟩
  rw [numb_get e2]
  simp
end
end Mi

set_option Elab.async false
set_option linter.all false
set_option maxRecDepth 100000
set_option maxHeartbeats 4000000
/-! Mi, part 19: sums of anything that can be added. -/
namespace Mi
open PySem PySem.Spec PyProof.Rows L2
section
variable {Z : Ci} {W : WX} {G : Ga} {X : Cx}
/-- within a builtin; nothing may be raised -/
def X1 (X : Cx) : Cx := { X with A := X.A.in1, xe := fun _ _ => False }
theorem takes0 {X : Cx} : L2.Takes X W0 := fun u s' ⟨_, _, _, _, _, _, _, _, _, _, _, _, _, _, _, _, w⟩ => w.elim
theorem inv1 {pins : List (Addr × Obj)} {σ : L2.St} {H : Hp} {s : Shared} (I : Inv X pins σ H s) : Inv (X1 X) pins σ H s :=
  ⟨⟨I.ok.mod, I.ok.kind, I.ok.glob, I.ok.blt, I.ok.above, I.ok.inj, I.ok.has, I.ok.cab, I.ok.hd, I.ok.frames, I.ok.stk, I.ok.exf, I.ok.bs, I.ok.bsz, I.ok.noex, I.ok.exfs, I.ok.funs, I.ok.frf⟩, I.os, I.bare, I.base, I.loc, I.cell, I.free, I.freeC, I.pin, I.hok, I.len⟩
theorem inv0 {pins : List (Addr × Obj)} {σ : L2.St} {H : Hp} {s : Shared} (J : X.Ok) (I : Inv (X1 X) pins σ H s) : Inv X pins σ H s :=
  ⟨J, I.os, I.bare, I.base, I.loc, I.cell, I.free, I.freeC, I.pin, I.hok, I.len⟩
/-- not a float -/
def noFl : Value → Prop
  | .float _ _ => False
  | _ => True
theorem noFl_rep {F : Hp} {ρ : List Addr} {d : D} {x : V} {u : Value} (r : Rep Z F ρ d x) (h : RelV x u) : noFl u := by
  cases r <;> first | (cases h; trivial) | (obtain ⟨t, rfl⟩ := h; trivial)
def sumPlain (it total v : Value) (state : Addr) (next : Value → Int) : Sem Fin := do
    match ← (holding [v] (binaryOp .Add total v)).attempt with
    | .ok r => updateSeq state fun _ => #[r]; letGo [total, v]; updateSeq state fun _ => #[r]; again (.builtin "sum.loop" ⟨[it, .ref state, rawInt (next r), rawInt 0], []⟩)
    | .error e => updateSeq state fun _ => #[]; letGo [total, v] [e]; throw e
def stObj (u : Value) (c : Nat) : Obj := { cls := .type "list", dict := none, data := .seq #[u] c, slots := #[] }
/-- one addition, then on -/
theorem sum_plain {pins : List (Addr × Obj)} {σ : L2.St} {a it Sx : Addr} {R : Result → Shared → Prop} {s : Shared} {H F : Hp} {ρ : List Addr} {S : Sto} {t d : D} {tv dv : V} {tu du : Value} {c i : Nat} {kq : Bool} {next : Value → Int} {Q : VK} {l : List D} {E : Value → Shared → Prop}
    (hop : OpR (X1 X) (binaryOp .Add) (rB Z G .add)) (hne : it ≠ Sx) (hn : ∀ u, noFl u → next u = 2)
    (I : Inv (X1 X) pins σ H s) (hs : StoR Z F ρ S H) (hi : Ik kq s.heap it a i) (hS : s.heap.get? Sx = some (stObj tu c)) (f1 : FpOk (X1 X) pins H it) (f2 : FpOk (X1 X) pins H Sx)
    (r1 : Rep Z F ρ t tv) (v1 : RelV tv tu) (r2 : Rep Z F ρ d dv) (v2 : RelV dv du) (hq : PostA Z W0 ((binop G .add t d S).bind fun x S => sumL G l x S) (pV Z) F ρ σ H Q)
    (go : ∀ s' H' F' ρ' S' x xv xu c', Inv (X1 X) pins σ H' s' → Ext nO F ρ H F' ρ' H' → StoR Z F' ρ' S' H' → Ik kq s'.heap it a i → s'.heap.get? Sx = some (stObj xu c') → FpOk (X1 X) pins H' it → FpOk (X1 X) pins H' Sx → Rep Z F' ρ' x xv → RelV xv xu →
      PostA Z W0 (sumL G l x S') (pV Z) F' ρ' σ H' Q → codeAny (model X.prog X.w) X.A (.builtin "sum.loop" ⟨[.ref it, .ref Sx, rawInt 2, rawInt 0], []⟩) R s') :
    wpAny (model X.prog X.w) X.A.in1 (sumPlain (.ref it) tu du Sx next) (fun fin s' => match fin with | .done f => R (.ok f) s' | .again c' => c'.quiet = true ∧ codeAny (model X.prog X.w) X.A c' R s') E s := by
  obtain ⟨oi, hoi, hdi⟩ := hi.obj
  have objs : ∀ b ∈ [it, Sx], ∃ o, s.heap.get? b = some o ∧ ∀ v, o.data ≠ .cell v := fun b hb => by
    have e : b = it ∨ b = Sx := by simpa using hb
    rcases e with rfl | rfl
    · exact ⟨oi, hoi, hdi⟩
    · exact ⟨_, hS, fun v z => by cases z⟩
  have fp : ∀ b ∈ [it, Sx], FpOk (X1 X) pins H b := fun b hb => by
    have e : b = it ∨ b = Sx := by simpa using hb
    rcases e with rfl | rfl
    · exact f1
    · exact f2
  have I' := I.pinned fp objs
  unfold sumPlain
  refine wpAny_bind (wpAny_attempt (wpAny_holding ?_))
  refine wpAny_mono (hop _ s σ H tv dv tu du (fun x H' => ∃ y F' ρ' S', Ext nO F ρ H F' ρ' H' ∧ StoR Z F' ρ' S' H' ∧ Rep Z F' ρ' y x ∧ PostA Z W0 (sumL G l y S') (pV Z) F' ρ' σ H' Q) I' v1 v2 ⟨F, ρ, S, t, d, hs, r1, r2, ?_⟩) (fun u s1 ⟨x, H1, I1, rv, y, F1, ρ1, S1, e1, s1', ry, q1⟩ => ?_) fun e s1 z => (show False from z).elim
  · have := PostA.bind (P := pV Z) hq
    refine PostA.un (PostA.mono this fun a b F' ρ' H' e p g => ?_)
    obtain ⟨y, F1, ρ1, S1, e1, s1, p1, q1⟩ := g b p
    exact ⟨y, F1, ρ1, S1, e1, s1, p1, q1⟩
  · have pinI := fun b o (hb : b ∈ [it, Sx]) (e : s.heap.get? b = some o) => I1.pin (b, o) (List.mem_append_right _ (List.mem_append_right _ (mem_pinsAt hb e)))
    obtain ⟨k1, n1, _⟩ := pinI it oi (by simp) hoi
    obtain ⟨k2, n2, _⟩ := pinI Sx _ (by simp) hS
    have g1 : FpOk (X1 X) pins H1 it := ⟨n1, f1.2⟩
    have g2 : FpOk (X1 X) pins H1 Sx := ⟨n2, f2.2⟩
    have I2 := I1.unpinned
    show wpAny _ X.A.in1 (updateSeq Sx (fun _ => #[u]) >>= _) _ _ _
    refine wpAny_bind (wpAny_updateSeq k2 rfl ?_)
    have h2 := Heap.get?_update_self (Obj.mapSeq fun _ => #[u]) k2 rfl
    refine wpAny_bind (wpAny_letGo (wpAny_bind (wpAny_updateSeq h2 rfl ?_)))
    have h3 := Heap.get?_update_self (Obj.mapSeq fun _ => #[u]) h2 rfl
    refine wpAny_pure ⟨plainId_quiet PySem.F.plain_sum_loop _, ?_⟩
    rw [hn u (noFl_rep ry rv)]
    have kp : ∀ b o, b ≠ Sx → s1.heap.get? b = some o → ((s1.heap.update Sx (Obj.mapSeq fun _ => #[u])).update Sx (Obj.mapSeq fun _ => #[u])).get? b = some o := fun b o hb e =>
      (Heap.get?_update_other _ _ (Ne.symm hb)).trans ((Heap.get?_update_other _ _ (Ne.symm hb)).trans e)
    have I3 := I2.turned (t' := s1.toks) (it := Sx) kp g2.1 g2.2.1 g2.2.2.2.1 g2.2.2.2.2.1 g2.2.2.2.2.2
    refine go _ H1 F1 ρ1 S1 y x u _ I3 e1 s1' (hi.at1 fun o ho => by rw [hoi] at ho; cases ho; exact kp it oi hne k1) h3 g1 g2 ry rv q1
theorem pn_item {prog : Program} {w : World} {A : Around} {E : Value → Shared → Prop} {s : Shared} {p : Bool} {it l : Addr} {i : Nat} {items : Array Value} {x : Value} {Q : Option Value → Shared → Prop} (hit : Ik p s.heap it l i) (hl : Sk p s.heap l items) (hx : items[i]? = some x)
    (k : ∀ h', Ik p h' it l (i + 1) → Heap.SameBut it s.heap h' → Q (some x) { s with heap := h' }) : wpAny (model prog w) A (pyNext (.ref it)) Q E s := by
  cases p
  · exact wpAny_pyNext_list_item hit hl hx k
  · exact wpAny_pyNext_tuple_item hit hl hx k
theorem pn_end {prog : Program} {w : World} {A : Around} {E : Value → Shared → Prop} {s : Shared} {p : Bool} {it l : Addr} {i : Nat} {items : Array Value} {Q : Option Value → Shared → Prop} (hh : A.handled = none) (hit : Ik p s.heap it l i) (hl : Sk p s.heap l items) (hx : items[i]? = none)
    (k : ∀ h', Heap.ExtBut it s.heap h' → Q none { s with heap := h' }) : wpAny (model prog w) A (pyNext (.ref it)) Q E s := by
  cases p
  · exact wpAny_pyNext_list_end hh hit hl hx k
  · exact wpAny_pyNext_tuple_end hh hit hl hx k
/-- a source that is read: a list that is tracked, a tuple that stands -/
def Src (X : Cx) (p : Bool) (H : Hp) (a : Addr) (vs : List V) : Prop := match p with
  | true => SqT X.K H a vs
  | false => Rd H a (.lst vs)
theorem Src.sq {p : Bool} {H : Hp} {a : Addr} {vs : List V} (h : Src X p H a vs) : SqK p X.K H a vs := by
  cases p
  · exact .inl h
  · exact h
theorem Src.ext {p : Bool} {F F1 H H1 : Hp} {ρ ρ1 : List Addr} {S : Sto} {a : Addr} {vs : List V} (e : Ext nO F ρ H F1 ρ1 H1) (s : StoR Z F ρ S H) (h : Src X p H a vs) : Src X p H1 a vs := by
  cases p
  · exact rd_ext e s (fun q => q) h
  · exact sqT_ext e s (fun q => q) h
theorem sum_loop {kq : Bool} {pins : List (Addr × Obj)} {σ : L2.St} {a it Sx : Addr} {l0 : List D} {vs0 : List V} {R : Result → Shared → Prop} {Q : VK} (hc : X.calm = true) (hop : OpR (X1 X) (binaryOp .Add) (rB Z G .add)) (hne : it ≠ Sx)
    (hR : ∀ s' x u' H', Inv (X1 X) pins σ H' s' → RelV x u' → Q x H' → R (.ok (.ret u')) s') :
    ∀ (l : List D) (i : Nat) (s : Shared) (H F : Hp) (ρ : List Addr) (S : Sto) (t : D) (tv : V) (tu : Value) (c : Nat) (st : Int), l0.drop i = l → i ≤ l0.length → Inv (X1 X) pins σ H s → StoR Z F ρ S H → Src X kq H a vs0 → Reps Z F ρ l0 vs0 → Ik kq s.heap it a i → s.heap.get? Sx = some (stObj tu c) →
      FpOk (X1 X) pins H it → FpOk (X1 X) pins H Sx → Rep Z F ρ t tv → RelV tv tu → (st = 2 ∨ (st = 0 ∧ ∃ k, t = .int k)) → PostA Z W0 (sumL G l t S) (pV Z) F ρ σ H Q →
      codeAny (model X.prog X.w) X.A (.builtin "sum.loop" ⟨[.ref it, .ref Sx, rawInt st, rawInt 0], []⟩) R s := by
  intro l
  induction l with
  | nil =>
    intro i s H F ρ S t tv tu c st hd hi I hs hrd hr hit hS f1 f2 rt rv hst hq
    have hin : l0.length ≤ i := by simpa using hd
    refine codeAny_builtin PySem.F.entry_sum_loop ?_
    rw [Around.under_plainId PySem.F.plain_sum_loop _]
    show wpAny _ X.A.in1 (seqItems? (.ref Sx) >>= _) _ _ s
    refine wpAny_bind (wpAny_seqItems hS rfl ?_)
    show wpAny _ X.A.in1 (tryCatch (pyNext (.ref it)) _ >>= _) _ _ s
    obtain ⟨its, rvs, pl, _⟩ := sqk I hrd.sq
    have hl := rvs.length
    have hl2 := hr.len
    refine wpAny_bind (wpAny_tryCatch (pn_end (I.ok.hd hc) hit pl (by simp; omega) fun h' eb => ?_))
    have I1 : Inv (X1 X) pins σ H { s with heap := h' } := I.turned (t' := s.toks) (fun b o hb e => eb b o hb e) f1.1 f1.2.1 f1.2.2.2.1 f1.2.2.2.2.1 f1.2.2.2.2.2
    have fin := hR _ tv tu H I1 rv (PostA.done hq hs rt)
    have hf := noFl_rep rt rv
    cases tu <;> first | exact hf.elim | exact wpAny_pure fin
  | cons d l ih =>
    intro i s H F ρ S t tv tu c st hd hi I hs hrd hr hit hS f1 f2 rt rv hst hq
    have hlt : i < l0.length := by
      by_cases z : i < l0.length
      · exact z
      · rw [List.drop_eq_nil_of_le (by omega)] at hd; cases hd
    have hdi : l0[i]? = some d := by
      rw [List.drop_eq_getElem_cons hlt] at hd
      rw [List.getElem?_eq_getElem hlt, (List.cons.inj hd).1]
    have hd' : l0.drop (i + 1) = l := by
      rw [List.drop_eq_getElem_cons hlt] at hd
      exact (List.cons.inj hd).2
    refine codeAny_builtin PySem.F.entry_sum_loop ?_
    rw [Around.under_plainId PySem.F.plain_sum_loop _]
    show wpAny _ X.A.in1 (seqItems? (.ref Sx) >>= _) _ _ s
    refine wpAny_bind (wpAny_seqItems hS rfl ?_)
    show wpAny _ X.A.in1 (tryCatch (pyNext (.ref it)) _ >>= _) _ _ s
    obtain ⟨its, rvs, pl, _⟩ := sqk I hrd.sq
    obtain ⟨dv, hdv, rd⟩ := hr.get hdi
    obtain ⟨du, hdu, rdu⟩ := rvs.get hdv
    refine wpAny_bind (wpAny_tryCatch (pn_item hit pl (x := du) (by simpa using hdu) fun h' hit' sb => ?_))
    have I1 : Inv (X1 X) pins σ H { s with heap := h' } := I.turned (t' := s.toks) (fun b o hb e => (sb.2 b hb).trans e) f1.1 f1.2.1 f1.2.2.2.1 f1.2.2.2.2.1 f1.2.2.2.2.2
    have hS1 : h'.get? Sx = some (stObj tu c) := (sb.2 Sx (Ne.symm hne)).trans hS
    have hq : PostA Z W0 ((binop G .add t d S).bind fun x S => sumL G l x S) (pV Z) F ρ σ H Q := hq
    have go : ∀ s' H' F' ρ' S' x xv xu c', Inv (X1 X) pins σ H' s' → Ext nO F ρ H F' ρ' H' → StoR Z F' ρ' S' H' → Ik kq s'.heap it a (i + 1) → s'.heap.get? Sx = some (stObj xu c') → FpOk (X1 X) pins H' it → FpOk (X1 X) pins H' Sx → Rep Z F' ρ' x xv → RelV xv xu →
      PostA Z W0 (sumL G l x S') (pV Z) F' ρ' σ H' Q → codeAny (model X.prog X.w) X.A (.builtin "sum.loop" ⟨[.ref it, .ref Sx, rawInt 2, rawInt 0], []⟩) R s' :=
      fun s' H' F' ρ' S' x xv xu c' I' e' hs' hit' hS' g1 g2 rx rxv q' => ih (i + 1) s' H' F' ρ' S' x xv xu c' 2 hd' hlt I' hs' (hrd.ext e' hs) (e'.reps hr) hit' hS' g1 g2 rx rxv (.inl rfl) q'
    have plain : ∀ {next : Value → Int} {E : Value → Shared → Prop}, (∀ u, noFl u → next u = 2) → wpAny (model X.prog X.w) X.A.in1 (sumPlain (.ref it) tu du Sx next) (fun fin s' => match fin with | .done f => R (.ok f) s' | .again c' => c'.quiet = true ∧ codeAny (model X.prog X.w) X.A c' R s') E { s with heap := h' } :=
      fun hn => sum_plain hop hne hn I1 hs hit' hS1 f1 f2 rt rv rd rdu hq go
    cases rt with
    | @int k =>
      obtain ⟨tk, rfl⟩ := rv
      rcases hst with rfl | ⟨rfl, _⟩
      · exact plain (next := fun _ => 2) fun _ _ => rfl
      · cases rd with
        | @int j =>
          obtain ⟨tj, rfl⟩ := rdu
          show wpAny _ X.A.in1 (if (_ : Bool) = true then (mkInt (k + j) >>= _) else _) _ _ _
          split
          · refine wpAny_bind (wpAny_mkInt ?_)
            show wpAny _ X.A.in1 (updateSeq Sx (fun _ => #[Value.int (k + j) s.toks]) >>= _) _ _ _
            refine wpAny_bind (wpAny_updateSeq hS1 rfl ?_)
            have h3 := Heap.get?_update_self (Obj.mapSeq fun _ => #[Value.int (k + j) s.toks]) hS1 rfl
            refine wpAny_pure ⟨plainId_quiet PySem.F.plain_sum_loop _, ?_⟩
            have kp : ∀ b o, b ≠ Sx → h'.get? b = some o → (h'.update Sx (Obj.mapSeq fun _ => #[Value.int (k + j) s.toks])).get? b = some o := fun b o hb e => (Heap.get?_update_other _ _ (Ne.symm hb)).trans e
            obtain ⟨oi, hoi, hdi'⟩ := hit'.obj
            have I2 := I1.turned (t' := s.toks + 1) (it := Sx) kp f2.1 f2.2.1 f2.2.2.2.1 f2.2.2.2.2.1 f2.2.2.2.2.2
            exact ih (i + 1) _ H F ρ S (.int (k + j)) (.int (k + j)) _ _ 0 hd' hlt I2 hs hrd hr (hit'.at1 fun o ho => by rw [hoi] at ho; cases ho; exact kp it oi hne hoi) h3 f1 f2 .int ⟨_, rfl⟩ (.inr ⟨rfl, _, rfl⟩) hq
          · exact wpAny_bind (wpAny_rule (plain (next := fun _ => 2) fun _ _ => rfl))
        | bl => exact hq.elim
        | non => exact hq.elim
        | str => exact hq.elim
        | lst => exact hq.elim
        | tup => exact hq.elim
        | dr => exact hq.elim
        | ins =>
          cases rdu
          exact wpAny_bind (wpAny_rule (plain (next := _) fun u hu => by cases u <;> first | exact hu.elim | rfl))
    | str =>
      obtain ⟨tk, rfl⟩ := rv
      rcases hst with rfl | ⟨_, _, e⟩
      · exact plain (next := fun _ => 2) fun _ _ => rfl
      · cases e
    | _ =>
      cases rv
      rcases hst with rfl | ⟨_, _, e⟩
      · exact plain (next := fun _ => 2) fun _ _ => rfl
      · cases e
/-- sum(xs) -/
def rSumD (X : Cx) (Z : Ci) (G : Ga) : List V → Hp → VK → Prop := fun xs H Q => ∃ kq a vs F ρ S l, xs = [V.ref a] ∧ StoR Z F ρ S H ∧ Src X kq H a vs ∧ Reps Z F ρ l vs ∧ PostA Z W0 (sumL G l (.int 0) S) (pV Z) F ρ [] H Q
theorem cr_sumD (hc : X.calm = true) (hop : OpR (X1 X) (binaryOp .Add) (rB Z G .add)) : CallR X (.builtin "sum") (rSumD X Z G) := by
  intro pins s σ H xs us Q I r ⟨kq, a, vs, F, ρ, S, l, ex, hs, hrd, hr, q⟩
  subst ex
  rw [Vals.ref1 r]
  obtain ⟨its, rvs, pl, _⟩ := sqk I hrd.sq
  refine call_function_tree PySem.F.kind_sum PySem.F.plain_sum PySem.F.entry_sum (PySem.F.args_sum1 _) ?_
  unfold Builtin.«sum»
  simp only [List.length_cons, List.length_nil]
  rw [if_neg (by decide)]
  refine wpAny_bind (wpAny_of_eq (show Builtin.Builtins.bindParams "sum" ["start"] 0 { } = pure [none] from rfl) ?_)
  refine wpAny_bind (pk_iter pl ?_)
  refine wpAny_bind (wpAny_mkInt ?_)
  refine wpAny_bind (wpAny_pure ?_)
  simp only [List.forIn_cons, List.forIn_nil]
  refine wpAny_bind (wpAny_bind (wpAny_bind (wpAny_isInstance (T := "int") (b := false) (typeIs_int _ _ _) PySem.sub_int_str ?_)))
  simp only [Bool.false_eq_true, if_false]
  refine wpAny_pure (wpAny_bind (wpAny_bind (wpAny_isInstance (T := "int") (b := false) (typeIs_int _ _ _) PySem.sub_int_bytes ?_)))
  simp only [Bool.false_eq_true, if_false]
  refine wpAny_pure (wpAny_bind (wpAny_bind (wpAny_isInstance (T := "int") (b := false) (typeIs_int _ _ _) PySem.sub_int_bytearray ?_)))
  simp only [Bool.false_eq_true, if_false]
  refine wpAny_pure (wpAny_pure ?_)
  refine wpAny_bind (wpAny_newObj_type ?_)
  refine wpAny_pure ⟨plainId_quiet PySem.F.plain_sum_loop _, ?_⟩
  have hsz := Heap.size_push s.heap (itO kq a)
  refine sum_loop (pins := pins) (σ := σ) (Q := Q) hc hop (Nat.ne_of_lt (show s.heap.objs.size < (s.heap.push (itO kq a)).objs.size by rw [hsz]; exact Nat.lt_succ_self _)) (fun s' x u' H' I' rv q => ⟨x, H', inv0 I.ok I', rv, q⟩) l 0 _ H F ρ S (.int 0) (.int 0) _ 0 0 rfl (Nat.zero_le _) ?_ hs hrd hr (ik_new (Heap.get?_push_of_some _ (Heap.get?_push_size _ (itO_free kq a)))) (Heap.get?_push_size _ rfl) ((inv1 I).fpOk (Nat.le_refl _) (I.hok.fresh (Nat.le_refl _))) ?_ .int ⟨_, rfl⟩ (.inr ⟨rfl, _, rfl⟩) (q.un (σ' := σ))
  · exact (inv1 I).kept (t' := s.toks + 1) fun b o e => Heap.get?_push_of_some _ (Heap.get?_push_of_some _ e)
  · have hle : s.heap.objs.size ≤ (s.heap.push (itO kq a)).objs.size := by rw [hsz]; exact Nat.le_succ _
    exact (inv1 I).fpOk hle (I.hok.fresh hle)
theorem sumL_nox : ∀ {l : List D} {t : D} {S S' : Sto} {c : Nat} {fs : List D}, sumL G l t S = .ex c fs S' → False
  | [], t, S, S', c, fs, h => by cases h
  | d :: l, t, S, S', c, fs, h => by
    have h : (binop G .add t d S).bind (fun a S => sumL G l a S) = .ex c fs S' := h
    cases e : binop G .add t d S with
    | ok r S1 => rw [e] at h; exact sumL_nox h
    | bad => rw [e] at h; cases h
    | ex c1 f1 S1 => exact binop_nox e
theorem se_sum {s : Sq} {a : Expr} {p pos} (hK : X.K = Z.K) (hc : X.calm = true) (hop : OpR (X1 X) (binaryOp .Add) (rB Z G .add)) (hg : Gl X "sum") (hm : X.mg "sum" = none) (ha : OkQ X Z W G s a) (h1 : starEach [a] X.env = [(false, eval a X.env)]) :
    PE X (.Call (.Name "sum" p) [a] [] pos) (tE Z W G (.sum s)) := by
  refine (pe_callB (cr_sumD hc hop) hg hm (by decide +kernel) (pa_one ha.1 h1) (by decide) (by decide) (by rw [h1]; rfl) rfl).imp fun σ H Q h => ?_
  refine (tG.bind (P := pQ Z) (f := evq G s) (k := fun l _ S => sumL G l (.int 0) S) (h.eq fun v S => by rw [ev])).wk fun y H1 ⟨l, F1, ρ1, v1, S1, he, hs, ⟨a, vs, ex, hr, r⟩, q⟩ => ?_
  obtain ⟨kq, hr⟩ : ∃ kq, Src X kq H1 a vs := hr.elim (fun h => ⟨false, h⟩) fun h => ⟨true, (by rw [hK]; exact seqT hs.le h : SqT X.K H1 a vs)⟩
  refine ⟨kq, a, vs, F1, ρ1, S1, l, by rw [ex], hs, hr, r, ?_⟩
  cases e : sumL G l (.int 0) S1 with
  | ok r S' => rw [e] at q; exact q
  | bad => rw [e] at q; exact q
  | ex c fs S' => exact (sumL_nox e).elim
end
end Mi

set_option Elab.async false
set_option linter.all false
set_option maxRecDepth 100000
set_option maxHeartbeats 4000000
/-! Mi, part 20: what the matcher asks of the text: small facts. -/
namespace Mi
open PySem PySem.Spec PyProof.Rows L2
def notStar : Expr → Bool
  | .Starred .. => false
  | _ => true
theorem star_cons {a : Expr} {as : List Expr} {env : PySem.Env} (h : notStar a = true) : starEach (a :: as) env = (false, eval a env) :: starEach as env := by
  cases a <;> first | rfl | cases h
def plainT : Expr → Bool
  | .UnaryOp .Not .. => false
  | .BoolOp .. => false
  | .IfExp .. => false
  | .Compare .. => false
  | _ => true
theorem isTrue_plain {a : Expr} {env : PySem.Env} (h : plainT a = true) (whole : Sem Value) : isTrue a env whole = (do let v ← whole; standAt a.pos; holding [v] (truthy v)) := by
  cases a <;> first | rfl | (cases h; done) | skip
  rename_i op x pos
  cases op <;> first | rfl | cases h
def notSet : Expr → Bool
  | .Set .. => false
  | _ => true
theorem folded_not {a : Expr} {env : PySem.Env} (h : notSet a = true) (x : Value) : foldedSetIterable a env x = pure x := by
  cases a <;> first | rfl | cases h
def notComp : Expr → Bool
  | .ListComp .. => false
  | .SetComp .. => false
  | .DictComp .. => false
  | _ => true
theorem swaps_not {a : Expr} {t : Option Expr} {l : Nat} {env : PySem.Env} (h : notComp a = true) : swapsWith a t l env = pure false := by
  cases a <;> first | rfl | cases h
def notTup : Expr → Bool
  | .Tuple .. => false
  | _ => true
theorem stores_not {ts : List Expr} {a : Expr} {env : PySem.Env} (h : notTup a = true) : swappedStores ts a env = pure none := by
  cases a <;> first
    | (cases h; done)
    | (unfold swappedStores; rcases ts with _ | ⟨t, _ | ⟨u, r⟩⟩ <;> first | rfl | (cases t <;> rfl))
def notCall0 : Expr → Bool
  | .Call (.Name _ _) [] [] _ => false
  | _ => true
theorem base_not {a : Expr} {y : Str} {env : PySem.Env} (h : notCall0 a = true) : attributeBase a y env (eval a env) = eval a env := by
  cases a <;> first | rfl | skip
  rename_i f as kws pos
  cases f <;> first | rfl | skip
  cases as <;> first | rfl | skip
  cases kws <;> first | rfl | cases h
def notSlc : Expr → Bool
  | .Slice .. => false
  | _ => true
theorem ix_not {a : Expr} (h : notSlc a = true) : PlainIx a := by
  intro o i
  cases a <;> first | rfl | cases h
theorem behind_not {op : CmpOp} {a : Expr} (h : notSet a = true) : behindInMarks op a = false := by
  cases a <;> first | rfl | cases h
theorem last_not {o p : CmpOp} {a b : Expr} (h : notSet a = true) (h' : notSet b = true) : lastMarks [o, p] [a, b] = false := by
  cases a <;> first | (cases h; done) | (cases b <;> first | rfl | cases h')
def noStars : List Expr → Bool
  | [] => true
  | a :: as => notStar a && noStars as
theorem star_all : ∀ {as : List Expr} {env : PySem.Env}, noStars as = true → (starEach as env).any (·.1) = false
  | [], _, _ => rfl
  | a :: as, env, h => by
    simp only [noStars, Bool.and_eq_true] at h
    rw [star_cons h.1]
    simp [star_all h.2]
theorem back_any {as : List Expr} {env : PySem.Env} {pos : Pos} (h : noStars as = true) : (backTo pos (starEach as env)).any (·.1) = false := by
  have := star_all (env := env) h
  unfold backTo
  rw [List.any_map]
  exact this
theorem back_all {as : List Expr} {env : PySem.Env} {pos : Pos} (h : noStars as = true) : (backTo pos (starEach as env)).all (fun x => !x.1) = true := by
  have := back_any (env := env) (pos := pos) h
  rw [List.all_eq_not_any_not]
  simpa using this
theorem mth_eq {o : Expr} {y : Str} {apos pos : Pos} {as : List Expr} {env : PySem.Env} (h : notCall0 o = true) (hs : noStars as = true) (hn : as.length < 29) (hl : (apos.endLine == pos.line) = true) : ∃ pl : Sem Bool, eval (.Call (.Attribute o y apos) as [] pos) env = (do
      let ov ← eval o env
      standAt apos.atName
      let (g, first) ← holding [ov] (getMethod ov y pl)
      callWith pos g first (backTo pos (starEach as env)) (backToKw pos (keywordEach [] env))) := by
  refine ⟨do return (← importBound o env).getD true, ?_⟩
  have few : methodCallForm (as.length + ([] : List Keyword).length) (backTo pos (starEach as env)) (backToKw pos (keywordEach [] env)) = true := by
    unfold methodCallForm
    rw [back_all hs]
    simp [backToKw, keywordEach]
    omega
  show (do
    let ov ← attributeBase o y env (eval o env)
    standAt apos.atName
    methodCall o y apos pos env ov (as.length + ([] : List Keyword).length) (backTo pos (starEach as env)) (backToKw pos (keywordEach [] env))) = _
  rw [base_not h]
  unfold methodCall
  rw [few]
  unfold calleeOf methodCallPos
  simp only [if_true, hl, Bool.or_true, pure_bind]
end Mi

set_option Elab.async false
set_option linter.all false
set_option maxRecDepth 100000
set_option maxHeartbeats 4000000
/-! Mi, part 21: what is known ahead; carried into a comprehension's block. -/
namespace Mi
open PySem PySem.Spec PyProof.Rows L2
/-- the names of what a text may call -/
structure Mt where
  fnm : Nat → Option Str
  far : Nat → Nat → Bool
  cnm : Nat → Option Str
  car : Nat → Nat → Bool
  mnm : Nat → Option Str
  mar : Nat → Nat → Bool
  anm : Nat → Str
  na : Nat
  knm : Nat → Option Str
  gcd : Bool
/-- the block's names -/
structure Mx where
  N : List Str
  sc : Scope
  fn : Str → Bool
def blts : List Str := ["range", "len", "list", "tuple", "sorted", "set", "sum", "all", "max", "min", "int", "bool", "str", "dict", "isinstance", "enumerate", "zip"]
structure GF (X : Cx) (Z : Ci) (G : Ga) (T : Mt) : Prop where
  hK : X.K = Z.K
  units : X.A.units + 65 < cLine
  call : ∀ f x k, T.fnm f = some x → T.far f k = true → ∃ a, X.mg x = some (.ref a) ∧ PySem.W.keepIn X.K (.ref a) = true ∧ CalF X Z (G.call f) a k
  new : ∀ c x k, T.cnm c = some x → T.car c k = true → X.mg x = some (.ref (Z.ca c)) ∧ ∃ cl, G.cls c = some cl ∧ CalI X Z (G.call cl.init) c k
  cnm : ∀ c x, T.cnm c = some x → X.mg x = some (.ref (Z.ca c))
  mth : ∀ i y k, T.mnm i = some y → T.mar i k = true → MthF X Z G i y k
  con : ∀ i x, T.knm i = some x → ∃ d v u, G.con i = some d ∧ X.mg x = some u ∧ RelV v u ∧ ∀ F ρ, Rep Z F ρ d v
  blt : ∀ x ∈ blts, X.mg x = none
  gcd : T.gcd = true → X.mg "gcd" = some (.builtin "math.gcd")
  fld : ∀ c k, G.cls c = some k → ClsF X Z T.anm T.na c k
  ops : ∀ o, OpsF X Z G o
  ops1 : OpsF (X1 X) Z G .add
  iop : ∀ o, (∃ c k f, G.cls c = some k ∧ k.rop o = some f) → IntOp o
  neg : NegF X Z G
  isf : IsF X Z G
structure Same (X X' : Cx) : Prop where
  e1 : X'.prog = X.prog
  e2 : X'.w = X.w
  e3 : X'.K = X.K
  e4 : X'.mg = X.mg
  e5 : X'.base = X.base
  e6 : X'.A = X.A
section
variable {X X' : Cx} {Z : Ci} {G : Ga} {T : Mt} {W : WX}
theorem CalF.conv {call : List D → Sto → R D} {a : Addr} {k : Nat} (e : Same X X') (h : CalF X Z call a k) : CalF X' Z call a k := by
  obtain ⟨e1, e2, e3, e4, e5, e6⟩ := e
  obtain ⟨h⟩ := h
  exact ⟨by rw [e1, e2, e3, e4, e5, e6]; exact h⟩
theorem CalI.conv {call : List D → Sto → R D} {c : Nat} {k : Nat} (e : Same X X') (h : CalI X Z call c k) : CalI X' Z call c k := by
  obtain ⟨e1, e2, e3, e4, e5, e6⟩ := e
  obtain ⟨h⟩ := h
  exact ⟨by rw [e1, e2, e3, e4, e5, e6]; exact h⟩
theorem OpsF.conv {o : Bi} (e : Same X X') (h : OpsF X Z G o) : OpsF X' Z G o := by
  have e3 := e.e3
  refine ⟨fun c k f h1 h2 => ?_, fun c k f d k' f' h1 h2 h3 h4 h5 => by rw [e3]; exact h.two c k f d k' f' h1 h2 h3 h4 h5, fun c k f h1 h2 => ?_, by rw [e3]; exact h.int⟩
  · obtain ⟨g1, ⟨a, g2, g3⟩, g4⟩ := h.one c k f h1 h2
    rw [e3]
    exact ⟨g1, ⟨a, g2, g3.conv e⟩, g4⟩
  · obtain ⟨g1, ⟨a, b, g2, g3, g4, g5⟩, g6⟩ := h.rev c k f h1 h2
    rw [e3]
    exact ⟨g1, ⟨a, b, g2, g3, g4, g5.conv e⟩, g6⟩
theorem Same.x1 (e : Same X X') : Same (X1 X) (X1 X') := ⟨e.e1, e.e2, e.e3, e.e4, e.e5, by show X'.A.in1 = X.A.in1; rw [e.e6]⟩
theorem GF.conv (e : Same X X') (h : GF X Z G T) : GF X' Z G T := by
  have e3 := e.e3
  have e4 := e.e4
  refine ⟨e3.trans h.hK, by rw [e.e6]; exact h.units, fun f x k h1 h2 => ?_, fun c x k h1 h2 => ?_, fun c x h1 => by rw [e4]; exact h.cnm c x h1, fun i y k h1 h2 => ?_, fun i x h1 => by rw [e4]; exact h.con i x h1, fun x hx => by rw [e4]; exact h.blt x hx, fun g => by rw [e4]; exact h.gcd g, fun c k h1 => ?_, fun o => (h.ops o).conv e, h.ops1.conv e.x1, h.iop, ⟨fun c k f h1 h2 => ?_⟩, ?_⟩
  · obtain ⟨a, g1, g2, g3⟩ := h.call f x k h1 h2
    rw [e3, e4]
    exact ⟨a, g1, g2, g3.conv e⟩
  · obtain ⟨g1, cl, g2, g3⟩ := h.new c x k h1 h2
    rw [e4]
    exact ⟨g1, cl, g2, g3.conv e⟩
  · obtain ⟨g1, g2⟩ := h.mth i y k h1 h2
    refine ⟨g1, fun c k f h1 h2 => ?_⟩
    obtain ⟨a, k1, k2, k3, k4⟩ := g2 c k f h1 h2
    rw [e3]
    exact ⟨a, k1, k2, k3, k4.conv e⟩
  · obtain ⟨g1, g2, g3, g4, g5, g6⟩ := h.fld c k h1
    exact ⟨g1, g2, by rw [e3]; exact g3, by rw [e3]; exact g4, g5, g6⟩
  · obtain ⟨a, g1, g2, g3⟩ := h.neg.one c k f h1 h2
    rw [e3]
    exact ⟨a, g1, g2, g3.conv e⟩
  · obtain ⟨g1, g2, g3⟩ := h.isf
    exact ⟨by rw [e3]; exact g1, by rw [e3]; exact g2, by rw [e3]; exact g3⟩
theorem GF.op (h : GF X Z G T) (o : Bi) : OpR X (binaryOp (opO o)) (rB Z G o) := opr_all (opp_all h.hK o) (opi_all (W := W0) takes0 (h.ops o) (h.iop o))
theorem GF.op1 (h : GF X Z G T) : OpR (X1 X) (binaryOp .Add) (rB Z G .add) := opr_all (o := .add) (opp_all (X := X1 X) h.hK .add) (opi_all (W := W0) takes0 h.ops1 (h.iop .add))
theorem GF.cmp (h : GF X Z G T) (o : Cm) : OpR X (compareOp (cmO o)) (rC Z o) := opc_all h.hK h.units o
/-- the block at hand is the one that is told -/
structure Cok (X : Cx) (m : Mx) : Prop where
  N : X.N = m.N
  nd : m.N.Nodup
  sc : X.env.scope = m.sc
  fn : X.fn = m.fn
  calm : X.calm = true
def visB (m : Mx) (x : Str) : Bool := match m.sc.names.lookup x with
  | some .local => true
  | some .cell => true
  | some .free => true
  | _ => false
def dbg (x : Str) : Bool := !(x == ("__debug__" : Str)) && !(x == ("__classdict__" : Str))
/-- a local name, read -/
def nmB (m : Mx) (i : Nat) (x : Str) : Bool := decide (m.N[i]? = some x) && visB m x && dbg x
/-- a local name, stored -/
def stB (m : Mx) (i : Nat) (x : Str) : Bool := decide (m.N[i]? = some x) && (match m.sc.names.lookup x with
  | some .local => true
  | some .cell => m.fn x
  | _ => false)
/-- a global name -/
def gnB (m : Mx) (x : Str) : Bool := (match m.sc.names.lookup x with
  | some .globalImplicit => true
  | _ => false) && dbg x
theorem visB_ok {m : Mx} {x : Str} (c : Cok X m) (h : visB m x = true) : Vis X.env.scope x := by
  unfold visB at h
  unfold Vis
  rw [c.sc]
  split at h
  · rename_i e; exact .inl e
  · rename_i e; exact .inr (.inl e)
  · rename_i e; exact .inr (.inr e)
  · cases h
theorem dbg_ok {x : Str} (h : dbg x = true) : (x == ("__debug__" : Str)) = false ∧ (x == ("__classdict__" : Str)) = false := by
  simpa [dbg] using h
theorem nmB_ok {m : Mx} {i : Nat} {x : Str} (c : Cok X m) (h : nmB m i x = true) : X.N[i]? = some x ∧ Vis X.env.scope x ∧ (x == ("__debug__" : Str)) = false ∧ (x == ("__classdict__" : Str)) = false := by
  simp only [nmB, Bool.and_eq_true, decide_eq_true_eq] at h
  exact ⟨by rw [c.N]; exact h.1.1, visB_ok c h.1.2, dbg_ok h.2⟩
theorem stB_ok {m : Mx} {i : Nat} {x : Str} (c : Cok X m) (h : stB m i x = true) : X.N[i]? = some x ∧ L2.Loc X.env.scope x ∧ (X.fn x = true ∨ X.env.scope.names.lookup x = some .local) := by
  simp only [stB, Bool.and_eq_true, decide_eq_true_eq] at h
  obtain ⟨h1, h2⟩ := h
  unfold L2.Loc
  rw [c.N, c.sc, c.fn]
  split at h2
  · rename_i e; exact ⟨h1, .inl e, .inr e⟩
  · rename_i e; exact ⟨h1, .inr e, .inl h2⟩
  · cases h2
theorem gnB_ok {m : Mx} {x : Str} (c : Cok X m) (h : gnB m x = true) : Gl X x ∧ (x == ("__debug__" : Str)) = false := by
  simp only [gnB, Bool.and_eq_true] at h
  obtain ⟨h1, h2⟩ := h
  refine ⟨?_, (dbg_ok h2).1⟩
  unfold Gl Env.kindOf
  rw [c.sc]
  split at h1
  · assumption
  · cases h1
end
end Mi

set_option Elab.async false
set_option linter.all false
set_option maxRecDepth 100000
set_option maxHeartbeats 8000000
/-! Mi, part 22: the matcher, expressions. -/
namespace Mi
open PySem PySem.Spec PyProof.Rows L2
def mBi : Bi → Operator → Bool
  | .add, .Add => true | .sub, .Sub => true | .mul, .Mult => true | .fdiv, .FloorDiv => true | .mod, .Mod => true | .pow, .Pow => true
  | .band, .BitAnd => true | .bor, .BitOr => true | .bxor, .BitXor => true | .shl, .LShift => true | .shr, .RShift => true
  | _, _ => false
theorem mBi_ok : ∀ {o : Bi} {p : Operator}, mBi o p = true → p = opO o := by
  intro o p h
  cases o <;> cases p <;> first | rfl | cases h
def mCm : Cm → CmpOp → Bool
  | .lt, .Lt => true | .le, .LtE => true | .gt, .Gt => true | .ge, .GtE => true | .eq, .Eq => true | .ne, .NotEq => true | .isin, .In => true | .notin, .NotIn => true
  | _, _ => false
theorem mCm_ok : ∀ {o : Cm} {p : CmpOp}, mCm o p = true → p = cmO o := by
  intro o p h
  cases o <;> cases p <;> first | rfl | cases h
def noIf : Expr → Bool
  | .IfExp .. => false
  | _ => true
/-- targets -/
def gPs : List Nat → TGs
  | [] => gNil
  | i :: is => gCons (gName i) (gPs is)
def gP (Z : Ci) : Pt → TG
  | .nm i => gName i
  | .tp is => gTup Z.K is.length (gPs is)
def mPs (m : Mx) : List Nat → List Expr → Bool
  | [], [] => true
  | i :: is, e :: es => (match e with
    | .Name x _ => stB m i x
    | _ => false) && mPs m is es
  | _, _ => false
def mP (m : Mx) : Pt → Expr → Bool
  | .nm i, e => (match e with
    | .Name x _ => stB m i x
    | _ => false)
  | .tp is, e => (match e with
    | .Tuple es _ _ => mPs m is es
    | _ => false)
def tyN : Ty → Option String
  | .int => some "int"
  | .bool => some "bool"
  | .str => some "str"
  | .list => some "list"
  | .tuple => some "tuple"
  | .dict => some "dict"
  | .cls _ => none
def mTy (T : Mt) (m : Mx) (t : Ty) (e : Expr) : Bool := match e with
  | .Name x _ => gnB m x && (match t with
    | .cls c => decide (T.cnm c = some x)
    | t => (match tyN t with
      | some n => decide (x = Str.ofString n)
      | none => false))
  | _ => false
def mTys (T : Mt) (m : Mx) : List Ty → List Expr → Bool
  | [], [] => true
  | t :: ts, e :: es => mTy T m t e && mTys T m ts es
  | _, _ => false
/-- a built-in's name -/
def bn (m : Mx) (x : Str) (n : String) : Bool := decide (x = Str.ofString n) && gnB m x
def ownL (m : Mx) (own : List Nat) : List (Str × Nat) := own.map fun i => ((m.N[i]?).getD "", i)
/-- a comprehension's block -/
def blkM (m : Mx) (sc : Scope) : Mx := { N := m.N, sc := relS sc m.sc, fn := fun x => sc.names.lookup x == some .cell }

/-- a walk that gives pairs goes to a tuple of names -/
def tgOk : Wk → Expr → Bool
  | .enum _, tg => (match tg with
    | .Tuple .. => true
    | _ => false)
  | .zip _ _, tg => (match tg with
    | .Tuple .. => true
    | _ => false)
  | _, _ => true
mutual
def mE (T : Mt) (m : Mx) : Ex → Expr → Bool
  | .var i, x => (match x with
    | .Name x _ => nmB m i x
    | _ => false)
  | .int n, x => (match x with
    | .Constant (.int k) _ _ => decide (n = k)
    | _ => false)
  | .bl b, x => (match x with
    | .Constant (.bool k) _ _ => decide (b = k)
    | _ => false)
  | .non, x => (match x with
    | .Constant .none _ _ => true
    | _ => false)
  | .str s, x => (match x with
    | .Constant (.str x) _ _ => decide (x = toS s)
    | _ => false)
  | .con k, x => (match x with
    | .Name x _ => gnB m x && decide (T.knm k = some x)
    | _ => false)
  | .tup es, x => (match x with
    | .Tuple as _ _ => mA T m es as
    | _ => false)
  | .lst es, x => (match x with
    | .List as _ => mA T m es as
    | _ => false)
  | .neg a, x => (match x with
    | .UnaryOp .USub x _ => mE T m a x
    | _ => false)
  | .not a, x => (match x with
    | .UnaryOp .Not x _ => mE T m a x && noIf x
    | _ => false)
  | .bin o a b, x => (match x with
    | .BinOp x op y _ => mBi o op && mE T m a x && mE T m b y
    | _ => false)
  | .cmp o a b, x => (match x with
    | .Compare x [op] [y] _ => mCm o op && mE T m a x && mE T m b y && notSet y
    | _ => false)
  | .chn o p a b c, x => (match x with
    | .Compare x [op, oq] [y, z] _ => mCm o op && mCm p oq && mE T m a x && mE T m b y && mE T m c z && notSet y && notSet z
    | _ => false)
  | .isN a, x => (match x with
    | .Compare x [.Is] [.Constant .none _ _] _ => mE T m a x
    | _ => false)
  | .isNN a, x => (match x with
    | .Compare x [.IsNot] [.Constant .none _ _] _ => mE T m a x
    | _ => false)
  | .and es, x => (match x with
    | .BoolOp .And (a :: as) _ => mT T m es (a :: as)
    | _ => false)
  | .or es, x => (match x with
    | .BoolOp .Or (a :: as) _ => mT T m es (a :: as)
    | _ => false)
  | .ife c a b, x => (match x with
    | .IfExp x y z _ => mE T m c x && noIf x && mE T m a y && mE T m b z
    | _ => false)
  | .idx s i, x => (match x with
    | .Subscript a b _ => mQ T m s a && mE T m i b && notSlc b
    | _ => false)
  | .slc s lo hi, x => (match x with
    | .Subscript a (.Slice l h none _) _ => mQ T m s a && mO T m lo l && mO T m hi h
    | _ => false)
  | .rev _, _ => false
  | .fld a f, x => (match x with
    | .Attribute x y _ => mE T m a x && decide (f < T.na) && decide (T.anm f = y) && notCall0 x
    | _ => false)
  | .sfl i f, x => (match x with
    | .Attribute (.Name x _) y _ => nmB m i x && decide (f < T.na) && decide (T.anm f = y)
    | _ => false)
  | .call f es, x => (match x with
    | .Call (.Name x _) as [] _ => gnB m x && decide (T.fnm f = some x) && T.far f (exN es) && mA T m es as
    | _ => false)
  | .new c es, x => (match x with
    | .Call (.Name x _) as [] _ => gnB m x && decide (T.cnm c = some x) && T.car c (exN es) && mA T m es as
    | _ => false)
  | .mth i a es, x => (match x with
    | .Call (.Attribute o y ap) as [] pos => decide (T.mnm i = some y) && T.mar i (exN es) && notCall0 o && decide (as.length < 29) && (ap.endLine == pos.line) && mE T m a o && mA T m es as
    | _ => false)
  | .len s, x => (match x with
    | .Call (.Name x _) [a] [] _ => bn m x "len" && mQ T m s a && notStar a
    | _ => false)
  | .listOf s, x => (match x with
    | .Call (.Name x _) [a] [] _ => bn m x "list" && mQ T m s a && notStar a
    | _ => false)
  | .tupOf s, x => (match x with
    | .Call (.Name x _) [a] [] _ => bn m x "tuple" && mQ T m s a && notStar a
    | _ => false)
  | .sum s, x => (match x with
    | .Call (.Name x _) [a] [] _ => bn m x "sum" && mQ T m s a && notStar a
    | _ => false)
  | .all s, x => (match x with
    | .Call (.Name x _) [a] [] _ => bn m x "all" && mQ T m s a && notStar a
    | _ => false)
  | .sorted s, x => (match x with
    | .Call (.Name x _) [a] [] _ => bn m x "sorted" && mQ T m s a && notStar a
    | _ => false)
  | .lenSet s, x => (match x with
    | .Call (.Name x _) [.Call (.Name y _) [a] [] _] [] _ => bn m x "len" && bn m y "set" && mQ T m s a && notStar a
    | _ => false)
  | .max2 a b, x => (match x with
    | .Call (.Name x _) [y, z] [] _ => bn m x "max" && mE T m a y && mE T m b z && notStar y && notStar z
    | _ => false)
  | .min2 a b, x => (match x with
    | .Call (.Name x _) [y, z] [] _ => bn m x "min" && mE T m a y && mE T m b z && notStar y && notStar z
    | _ => false)
  | .intOf a, x => (match x with
    | .Call (.Name x _) [y] [] _ => bn m x "int" && mE T m a y && notStar y
    | _ => false)
  | .gcd a b, x => (match x with
    | .Call (.Name x _) [y, z] [] _ => bn m x "gcd" && T.gcd && mE T m a y && mE T m b z && notStar y && notStar z
    | _ => false)
  | .isI a ts b, x => (match x with
    | .Call (.Name x _) [y, c] [] _ => bn m x "isinstance" && mE T m a y && notStar y && (match b with
      | false => (match ts with
        | [t] => mTy T m t c
        | _ => false)
      | true => (match c with
        | .Tuple es _ _ => mTys T m ts es && decide (ts.length ≤ 100)
        | _ => false))
    | _ => false)
  | .dget a k, x => (match x with
    | .Subscript x (.Constant (.str y) _ _) _ => mE T m a x && decide (y = toS k)
    | _ => false)
  | .disp ks es, x => (match x with
    | .Dict (k :: keys) vals _ => mD T m es ks (k :: keys) vals && decide ((k :: keys).length ≤ 15)
    | _ => false)
  | .comp e own p it c, x => (match x with
    | .ListComp elt [⟨tg, iter, ifs, z⟩] sc _ => decide (z = 0) && (mW T m it iter && tgOk it tg) && notSet iter && blkC m.N m.sc sc (ownL m own) && (slotsP p).all (fun i => own.contains i) && mP (blkM m sc) p tg && mC T (blkM m sc) c ifs && mE T (blkM m sc) e elt
    | _ => false)
def mA (T : Mt) (m : Mx) : Exs → List Expr → Bool
  | .nil, as => (match as with
    | [] => true
    | _ => false)
  | .cons e es, as => (match as with
    | a :: as => mE T m e a && notStar a && mA T m es as
    | _ => false)
def mT (T : Mt) (m : Mx) : Exs → List Expr → Bool
  | .nil, as => (match as with
    | [] => true
    | _ => false)
  | .cons e es, as => (match as with
    | a :: as => mE T m e a && noIf a && mT T m es as
    | _ => false)
def mD (T : Mt) (m : Mx) : Exs → List (List Nat) → List (Option Expr) → List Expr → Bool
  | .nil, ks, keys, vals => ks.isEmpty && keys.isEmpty && vals.isEmpty
  | .cons e es, ks, keys, vals => (match ks, keys, vals with
    | k :: ks, some (.Constant (.str x) _ _) :: keys, v :: vals => decide (x = toS k) && mE T m e v && mD T m es ks keys vals
    | _, _, _ => false)
def mQ (T : Mt) (m : Mx) : Sq → Expr → Bool
  | .own i, x => (match x with
    | .Name x _ => nmB m i x
    | _ => false)
  | .ex e, x => mE T m e x
def mO (T : Mt) (m : Mx) : Exo → Option Expr → Bool
  | .no, x => x.isNone
  | .yes e, x => (match x with
    | some x => mE T m e x
    | none => false)
def mC (T : Mt) (m : Mx) : Exo → List Expr → Bool
  | .no, as => (match as with
    | [] => true
    | _ => false)
  | .yes e, as => (match as with
    | [a] => mE T m e a && noIf a
    | _ => false)
def mW (T : Mt) (m : Mx) : Wk → Expr → Bool
  | .seq s, x => mQ T m s x
  | .rng1 a, x => (match x with
    | .Call (.Name x _) [y] [] _ => bn m x "range" && mE T m a y && notStar y
    | _ => false)
  | .rng2 a b, x => (match x with
    | .Call (.Name x _) [y, z] [] _ => bn m x "range" && mE T m a y && mE T m b z && notStar y && notStar z
    | _ => false)
  | .enum s, x => (match x with
    | .Call (.Name x _) [a] [] _ => bn m x "enumerate" && mQ T m s a && notStar a
    | _ => false)
  | .zip s t, x => (match x with
    | .Call (.Name x _) [a, b] [] _ => bn m x "zip" && mQ T m s a && mQ T m t b && notStar a && notStar b
    | _ => false)
end
def noOwnW : Wk → Bool
  | .seq s => noOwn s
  | .enum s => noOwn s
  | .zip s t => noOwn s && noOwn t
  | _ => true

theorem gPs_run {Z : Ci} : ∀ {is : List Nat} {ds : List D} {vs : List V} {v w : Env} {σ : L2.St} {F H : Hp} {ρ : List Addr} {Q : L2.St → Hp → Prop}, setAll is ds v = some w → Reps Z F ρ ds vs → EnvR Z F ρ v σ H →
    (∀ σ', EnvR Z F ρ w σ' H → But is σ σ' → Q σ' H) → gPs is vs σ H Q
  | [], ds, vs, v, w, σ, F, H, ρ, Q, hw, r, he, k => by
    cases r with
    | nil => cases hw; exact ⟨rfl, k _ he ⟨rfl, fun _ _ => rfl⟩⟩
    | cons _ _ => cases hw
  | i :: is, ds, vs, v, w, σ, F, H, ρ, Q, hw, r, he, k => by
    cases r with
    | nil => cases hw
    | cons r1 r2 =>
      refine ⟨_, _, rfl, ?_⟩
      exact gPs_run (Q := Q) hw r2 (he.put r1) fun σ' he' hb => k σ' he' ⟨by rw [← hb.1, List.length_set], fun j hj => by
        have hj' : j ≠ i ∧ j ∉ is := by simpa using hj
        rw [hb.2 j hj'.2, List.getElem?_set_ne (Ne.symm hj'.1)]⟩
theorem setAll_len : ∀ {is : List Nat} {l : List D} {v w : Env}, setAll is l v = some w → l.length = is.length
  | [], [], _, _, _ => rfl
  | [], _ :: _, _, _, h => by cases h
  | _ :: _, [], _, _, h => by cases h
  | i :: is, _ :: l, v, w, h => by simp [setAll_len (show setAll is l _ = some w from h)]
theorem stP_all {Z : Ci} : ∀ p, StP Z p (gP Z p)
  | .nm i => fun d v w x σ F H ρ S Q hb r he hs k => by
    cases hb
    exact k _ (he.put r) ⟨by rw [List.length_set], fun j hj => List.getElem?_set_ne (fun e => hj (by simp [slotsP, e]))⟩
  | .tp is => fun d v w x σ F H ρ S Q hb r he hs q => by
    cases r with
    | @tup a vs l h1 r => exact ⟨a, vs, rfl, seqT hs.le h1, by rw [← r.len]; exact setAll_len (show setAll is l v = some w from hb), gPs_run (show setAll is l v = some w from hb) r he fun σ' he' hb' => q σ' he' hb'⟩
    | _ => cases hb
section
variable {X : Cx} {Z : Ci} {G : Ga} {T : Mt} {W : WX} {m : Mx}
theorem mPs_ok (c : Cok X m) : ∀ {is : List Nat} {es : List Expr}, mPs m is es = true → TupOk X is es (gPs is)
  | [], [], _ => .nil
  | i :: is, e :: es, h => by
    simp only [mPs, Bool.and_eq_true] at h
    obtain ⟨h1, h2⟩ := h
    split at h1
    · obtain ⟨g1, g2, g3⟩ := stB_ok c h1
      exact .cons g1 g2 g3 (mPs_ok c h2)
    · cases h1
  | [], _ :: _, h => by cases h
  | _ :: _, [], h => by cases h
theorem mP_ok (c : Cok X m) (hG : GF X Z G T) {p : Pt} {e : Expr} (h : mP m p e = true) : PG X e (gP Z p) ∧ StP Z p (gP Z p) := by
  have nd : X.N.Nodup := by rw [c.N]; exact c.nd
  cases p with
  | nm i =>
    simp only [mP] at h
    split at h
    · obtain ⟨g1, g2, g3⟩ := stB_ok c h
      exact okP_nm nd g1 g2 g3
    · cases h
  | tp is =>
    simp only [mP] at h
    split at h
    · have t := mPs_ok c h
      have := okP_tp (Z := Z) (k := 0) (pos := default) hG.hK nd c.calm t
      rename_i es kk pos
      have r := okP_tp (Z := Z) (k := kk) (pos := pos) hG.hK nd c.calm t
      unfold OkP at r
      rw [show gP Z (.tp is) = gTup X.K is.length (gPs is) by rw [hG.hK]; rfl]
      exact r
    · cases h
theorem bn_ok (c : Cok X m) {x : Str} {n : String} (h : bn m x n = true) : x = Str.ofString n ∧ Gl X x := by
  simp only [bn, Bool.and_eq_true, decide_eq_true_eq] at h
  exact ⟨h.1, (gnB_ok c h.2).1⟩
theorem mTy_ok (c : Cok X m) (hG : GF X Z G T) {t : Ty} {e : Expr} (h : mTy T m t e = true) : OkTy X Z t e ∧ notStar e = true := by
  unfold mTy at h
  split at h
  · rename_i x pos
    simp only [Bool.and_eq_true] at h
    obtain ⟨h1, h2⟩ := h
    obtain ⟨g1, g2⟩ := gnB_ok c h1
    refine ⟨?_, rfl⟩
    unfold OkTy
    cases t with
    | cls k =>
      simp only [decide_eq_true_eq] at h2
      exact pe_glob g1 (hG.cnm k x h2) rfl g2
    | _ =>
      simp only [tyN, decide_eq_true_eq] at h2
      subst h2
      exact pe_bltn g1 (hG.blt _ (by decide)) (by decide +kernel) rfl (by decide) (by decide)
  · cases h
theorem mTys_ok (c : Cok X m) (hG : GF X Z G T) : ∀ {ts : List Ty} {es : List Expr}, mTys T m ts es = true → OkTys X Z ts es
  | [], [], _ => trivial
  | t :: ts, e :: es, h => by
    simp only [mTys, Bool.and_eq_true] at h
    obtain ⟨g1, g2⟩ := mTy_ok (Z := Z) c hG h.1
    exact ⟨g1, star_cons g2, mTys_ok c hG h.2⟩
  | [], _ :: _, h => by cases h
  | _ :: _, [], h => by cases h
theorem blk_cok (c : Cok X m) {s : Shared} {H : Hp} {sc : Scope} {cl : List (Str × Addr)} {C : Addr} {fp : List Addr} : Cok (X.blk s H sc (compEnvC sc cl C X.env) fp) (blkM m sc) :=
  ⟨c.N, c.nd, by show relS sc X.env.scope = relS sc m.sc; rw [c.sc], rfl, c.calm⟩
theorem blk_same {s : Shared} {H : Hp} {sc : Scope} {env : PySem.Env} {fp : List Addr} : Same X (X.blk s H sc env fp) := ⟨rfl, rfl, rfl, rfl, rfl, rfl⟩
end
end Mi

set_option Elab.async false
set_option linter.all false
set_option maxRecDepth 100000
set_option maxHeartbeats 8000000
/-! Mi, part 23: the matcher is right, expressions. -/
namespace Mi
open PySem PySem.Spec PyProof.Rows L2
section
variable {X : Cx} {Z : Ci} {G : Ga} {T : Mt} {W : WX} {m : Mx}
/-- an expression reads as e -/
def GoodE (X : Cx) (Z : Ci) (W : WX) (G : Ga) (e : Ex) (x : Expr) : Prop := PE X x (tE Z W G e) ∧ (isFresh e = true → PE X x (tF Z W (ev G e))) ∧ (noIf x = true → PT X x (tT Z W G e))
theorem GoodE.val {e : Ex} {x : Expr} (h : PE X x (tE Z W G e)) (hf : isFresh e = false) (hp : plainT x = true) : GoodE X Z W G e x := ⟨h, fun q => (by rw [hf] at q; cases q), fun _ => st_val h (isTrue_plain hp)⟩
theorem GoodE.new {e : Ex} {x : Expr} (h : PE X x (tF Z W (ev G e))) (hp : plainT x = true) : GoodE X Z W G e x := ⟨h.still, fun _ => h, fun _ => st_val h.still (isTrue_plain hp)⟩
theorem GoodE.both {e : Ex} {x : Expr} (h : PE X x (tE Z W G e) ∧ PT X x (tT Z W G e)) (hf : isFresh e = false) : GoodE X Z W G e x := ⟨h.1, fun q => (by rw [hf] at q; cases q), fun _ => h.2⟩
theorem star_one {a : Expr} {env : PySem.Env} (h : notStar a = true) : starEach [a] env = [(false, eval a env)] := by rw [star_cons h]; rfl
/-- arguments read as es -/
def GoodA (X : Cx) (Z : Ci) (W : WX) (G : Ga) (es : Exs) (as : List Expr) : Prop := PA X as (tEs Z W G es) ∧ noStars as = true ∧ (as = [] → es = .nil)
theorem GoodA.star {es : Exs} {as : List Expr} {pos : Pos} (h : GoodA X Z W G es as) : ∀ b bs, as = b :: bs → starEach as X.env = (false, eval b X.env) :: starEach bs X.env ∧ (backTo pos (starEach bs X.env)).any (·.1) = false := by
  rintro b bs rfl
  have h2 := h.2.1
  simp only [noStars, Bool.and_eq_true] at h2
  exact ⟨star_cons h2.1, back_any h2.2⟩
/-- an operand -/
def GoodQ (X : Cx) (Z : Ci) (W : WX) (G : Ga) (s : Sq) (x : Expr) : Prop := OkQ X Z W G s x ∧ ∀ e, s = .ex e → PE X x (tE Z W G e)
def GoodW (X : Cx) (Z : Ci) (W : WX) (G : Ga) (it : Wk) (x : Expr) : Prop := ∀ (O : Addr → Prop) (tg : Expr), (noOwnW it = true ∨ ∀ b, ¬ O b) → tgOk it tg = true → PI X tg x (tI Z W G O it)
theorem isN_pt {a : Ex} {x : Expr} {j pos' pos} (ha : PE X x (tE Z W G a)) : PT X (.Compare x [.Is] [.Constant .none j pos'] pos) (tT Z W G (.isN a)) := by
  refine (pt_cmp (pc_isN (j := j) (pos' := pos') ha)).imp fun σ H Q h => ?_
  refine (tG.bind (P := pV Z) (f := ev G a) (k := fun x _ S => R.ok (match x with | .non => true | _ => false) S) (h.eq fun v S => by rw [ev]; cases ev G a v S <;> rfl)).wk fun x1 H1 ⟨d, F1, ρ1, v1, S1, he, hs, p, q⟩ => ?_
  cases p <;> exact ⟨_, rfl, PostA.done (P := pEq) q hs rfl⟩
theorem isNN_pt {a : Ex} {x : Expr} {j pos' pos} (ha : PE X x (tE Z W G a)) : PT X (.Compare x [.IsNot] [.Constant .none j pos'] pos) (tT Z W G (.isNN a)) := by
  refine (pt_cmp (pc_notN (j := j) (pos' := pos') ha)).imp fun σ H Q h => ?_
  refine (tG.bind (P := pV Z) (f := ev G a) (k := fun x _ S => R.ok (match x with | .non => false | _ => true) S) (h.eq fun v S => by rw [ev]; cases ev G a v S <;> rfl)).wk fun x1 H1 ⟨d, F1, ρ1, v1, S1, he, hs, p, q⟩ => ?_
  cases p <;> exact ⟨_, rfl, PostA.done (P := pEq) q hs rfl⟩
theorem se_con {k : Nat} {x : Str} {d : D} {v : V} {u : Value} {pos} (hd : G.con k = some d) (hg : Gl X x) (hm : X.mg x = some u) (r : RelV v u) (hv : ∀ F ρ, Rep Z F ρ d v) (hdb : (x == ("__debug__" : Str)) = false) : PE X (.Name x pos) (tE Z W G (.con k)) :=
  (pe_glob hg hm r hdb).imp fun σ H Q ⟨F, ρ, v, S, he, hs, hp⟩ => PostA.done (P := pV Z) (W := W) (σ := σ) (by unfold ev at hp; rw [hd] at hp; exact hp) hs (hv F ρ)
theorem bl (hG : GF X Z G T) (n : String) (h : Str.ofString n ∈ blts) : X.mg (Str.ofString n) = none := hG.blt _ h

set_option maxHeartbeats 16000000 in
mutual
theorem mE_ok : ∀ (e : Ex) {X : Cx} {m : Mx} {W : WX} {x : Expr}, Cok X m → GF X Z G T → L2.Takes X W → mE T m e x = true → GoodE X Z W G e x
  | .var i, X, m, W, x, c, hG, tk, h => by
    unfold mE at h; split at h
    · obtain ⟨h1, h2, h3, h4⟩ := nmB_ok c h
      exact .val (se_var h1 h2 h3 h4) rfl rfl
    · cases h
  | .int n, X, m, W, x, c, hG, tk, h => by
    unfold mE at h; split at h
    · obtain rfl := of_decide_eq_true h
      exact .val se_int rfl rfl
    · cases h
  | .bl b, X, m, W, x, c, hG, tk, h => by
    unfold mE at h; split at h
    · obtain rfl := of_decide_eq_true h
      exact .val se_bl rfl rfl
    · cases h
  | .non, X, m, W, x, c, hG, tk, h => by
    unfold mE at h; split at h
    · exact .val se_non rfl rfl
    · cases h
  | .str s, X, m, W, x, c, hG, tk, h => by
    unfold mE at h; split at h
    · exact .val (se_str (of_decide_eq_true h)) rfl rfl
    · cases h
  | .con k, X, m, W, x, c, hG, tk, h => by
    unfold mE at h; split at h
    · simp only [Bool.and_eq_true, decide_eq_true_eq] at h
      obtain ⟨g1, g2⟩ := gnB_ok c h.1
      obtain ⟨d, v, u, k1, k2, k3, k4⟩ := hG.con k _ h.2
      exact .val (se_con k1 g1 k2 k3 k4 g2) rfl rfl
    · cases h
  | .tup es, X, m, W, x, c, hG, tk, h => by
    unfold mE at h; split at h
    · exact .val (se_tup (mA_ok es c hG tk h).1) rfl rfl
    · cases h
  | .lst es, X, m, W, x, c, hG, tk, h => by
    unfold mE at h; split at h
    · exact .new (sf_lst (mA_ok es c hG tk h).1) rfl
    · cases h
  | .neg a, X, m, W, x, c, hG, tk, h => by
    unfold mE at h; split at h
    · exact .val (se_neg tk hG.neg (mE_ok a c hG tk h).1) rfl rfl
    · cases h
  | .not a, X, m, W, x, c, hG, tk, h => by
    unfold mE at h; split at h
    · simp only [Bool.and_eq_true] at h
      have g := mE_ok a c hG tk h.1
      exact .both (se_not g.1 (g.2.2 h.2)) rfl
    · cases h
  | .bin o a b, X, m, W, x, c, hG, tk, h => by
    unfold mE at h; split at h
    · simp only [Bool.and_eq_true] at h
      obtain rfl := mBi_ok h.1.1
      exact .val (se_bin (hG.op o) (mE_ok a c hG tk h.1.2).1 (mE_ok b c hG tk h.2).1) rfl rfl
    · cases h
  | .cmp o a b, X, m, W, x, c, hG, tk, h => by
    unfold mE at h; split at h
    · simp only [Bool.and_eq_true] at h
      obtain rfl := mCm_ok h.1.1.1
      exact .both (se_cmp (hG.cmp o) (mE_ok a c hG tk h.1.1.2).1 (mE_ok b c hG tk h.1.2).1 (behind_not h.2)) rfl
    · cases h
  | .chn o p a b d, X, m, W, x, c, hG, tk, h => by
    unfold mE at h; split at h
    · simp only [Bool.and_eq_true] at h
      obtain rfl := mCm_ok h.1.1.1.1.1.1
      obtain rfl := mCm_ok h.1.1.1.1.1.2
      exact .both (se_chn (hG.cmp o) (hG.cmp p) (mE_ok a c hG tk h.1.1.1.1.2).1 (mE_ok b c hG tk h.1.1.1.2).1 (mE_ok d c hG tk h.1.1.2).1 (last_not h.1.2 h.2)) rfl
    · cases h
  | .isN a, X, m, W, x, c, hG, tk, h => by
    unfold mE at h; split at h
    · have g := (mE_ok a c hG tk h).1
      exact .both ⟨se_isN g, isN_pt g⟩ rfl
    · cases h
  | .isNN a, X, m, W, x, c, hG, tk, h => by
    unfold mE at h; split at h
    · have g := (mE_ok a c hG tk h).1
      exact .both ⟨se_isNN g, isNN_pt g⟩ rfl
    · cases h
  | .and es, X, m, W, x, c, hG, tk, h => by
    unfold mE at h; split at h
    · exact .both (se_and (mT_ok es c hG tk h) (by simp)) rfl
    · cases h
  | .or es, X, m, W, x, c, hG, tk, h => by
    unfold mE at h; split at h
    · exact .both (se_or (mT_ok es c hG tk h) (by simp)) rfl
    · cases h
  | .ife d a b, X, m, W, x, c, hG, tk, h => by
    unfold mE at h; split at h
    · simp only [Bool.and_eq_true] at h
      refine ⟨se_ife ((mE_ok d c hG tk h.1.1.1).2.2 h.1.1.2) (mE_ok a c hG tk h.1.2).1 (mE_ok b c hG tk h.2).1, fun q => (by cases q), fun q => (by cases q)⟩
    · cases h
  | .idx s i, X, m, W, x, c, hG, tk, h => by
    unfold mE at h; split at h
    · simp only [Bool.and_eq_true] at h
      exact .val (se_idx hG.hK (mQ_ok s c hG tk h.1.1).1 (mE_ok i c hG tk h.1.2).1 (ix_not h.2)) rfl rfl
    · cases h
  | .slc s lo hi, X, m, W, x, c, hG, tk, h => by
    unfold mE at h; split at h
    · simp only [Bool.and_eq_true] at h
      exact .val (se_slc hG.hK (mQ_ok s c hG tk h.1.1).1 (mO_ok lo c hG tk h.1.2) (mO_ok hi c hG tk h.2)) rfl rfl
    · cases h
  | .rev s, X, m, W, x, c, hG, tk, h => by unfold mE at h; cases h
  | .fld a f, X, m, W, x, c, hG, tk, h => by
    unfold mE at h; split at h
    · simp only [Bool.and_eq_true, decide_eq_true_eq] at h
      exact .val (se_fld hG.fld h.1.1.2 h.1.2 (mE_ok a c hG tk h.1.1.1).1 (base_not h.2)) rfl rfl
    · cases h
  | .sfl i f, X, m, W, x, c, hG, tk, h => by
    unfold mE at h; split at h
    · simp only [Bool.and_eq_true, decide_eq_true_eq] at h
      obtain ⟨h1, h2, h3, h4⟩ := nmB_ok c h.1.1
      exact .val (se_sfl hG.fld h.1.2 h.2 h1 h2 h3 h4 (base_not rfl)) rfl rfl
    · cases h
  | .call f es, X, m, W, x, c, hG, tk, h => by
    unfold mE at h; split at h
    · simp only [Bool.and_eq_true, decide_eq_true_eq] at h
      obtain ⟨g1, g2⟩ := gnB_ok c h.1.1.1
      obtain ⟨a, k1, k2, k3⟩ := hG.call f _ _ h.1.1.2 h.1.2
      have g := mA_ok es c hG tk h.2
      exact .val (se_call k3 tk g1 k1 k2 g2 g.1 g.star g.2.2) rfl rfl
    · cases h
  | .new k es, X, m, W, x, c, hG, tk, h => by
    unfold mE at h; split at h
    · simp only [Bool.and_eq_true, decide_eq_true_eq] at h
      obtain ⟨g1, g2⟩ := gnB_ok c h.1.1.1
      obtain ⟨k1, cl, k2, k3⟩ := hG.new k _ _ h.1.1.2 h.1.2
      have g := mA_ok es c hG tk h.2
      exact .val (se_new k2 k3 tk g1 k1 g2 g.1 g.star g.2.2) rfl rfl
    · cases h
  | .mth i a es, X, m, W, x, c, hG, tk, h => by
    unfold mE at h; split at h
    · simp only [Bool.and_eq_true, decide_eq_true_eq] at h
      obtain ⟨⟨⟨⟨⟨⟨h1, h2⟩, h3⟩, h4⟩, h5⟩, h6⟩, h7⟩ := h
      have g := mA_ok es c hG tk h7
      obtain ⟨pl, e⟩ := mth_eq (env := X.env) h3 g.2.1 h4 h5
      exact .val (se_mth (hG.mth i _ _ h1 h2) tk (mE_ok a c hG tk h6).1 g.1 g.star g.2.2 e) rfl rfl
    · cases h
  | .len s, X, m, W, x, c, hG, tk, h => by
    unfold mE at h; split at h
    · simp only [Bool.and_eq_true] at h
      obtain ⟨rfl, g⟩ := bn_ok c h.1.1
      exact .val (se_len hG.hK g (bl hG _ (by decide)) (mQ_ok s c hG tk h.1.2).1 (star_one h.2)) rfl rfl
    · cases h
  | .listOf s, X, m, W, x, c, hG, tk, h => by
    unfold mE at h; split at h
    · simp only [Bool.and_eq_true] at h
      obtain ⟨rfl, g⟩ := bn_ok c h.1.1
      exact .new (sf_listOf hG.hK g (bl hG _ (by decide)) (mQ_ok s c hG tk h.1.2).1 (star_one h.2)) rfl
    · cases h
  | .tupOf s, X, m, W, x, c, hG, tk, h => by
    unfold mE at h; split at h
    · simp only [Bool.and_eq_true] at h
      obtain ⟨rfl, g⟩ := bn_ok c h.1.1
      exact .val (se_tupOf hG.hK g (bl hG _ (by decide)) (mQ_ok s c hG tk h.1.2).1 (star_one h.2)) rfl rfl
    · cases h
  | .sum s, X, m, W, x, c, hG, tk, h => by
    unfold mE at h; split at h
    · simp only [Bool.and_eq_true] at h
      obtain ⟨rfl, g⟩ := bn_ok c h.1.1
      exact .val (se_sum hG.hK c.calm hG.op1 g (bl hG _ (by decide)) (mQ_ok s c hG tk h.1.2).1 (star_one h.2)) rfl rfl
    · cases h
  | .all s, X, m, W, x, c, hG, tk, h => by
    unfold mE at h; split at h
    · simp only [Bool.and_eq_true] at h
      obtain ⟨rfl, g⟩ := bn_ok c h.1.1
      exact .val (se_all g (bl hG _ (by decide)) (mQ_ok s c hG tk h.1.2).1 c.calm (star_one h.2)) rfl rfl
    · cases h
  | .sorted s, X, m, W, x, c, hG, tk, h => by
    unfold mE at h; split at h
    · simp only [Bool.and_eq_true] at h
      obtain ⟨rfl, g⟩ := bn_ok c h.1.1
      exact .new (sf_sorted g (bl hG _ (by decide)) (mQ_ok s c hG tk h.1.2).1 (star_one h.2)) rfl
    · cases h
  | .lenSet s, X, m, W, x, c, hG, tk, h => by
    unfold mE at h; split at h
    · simp only [Bool.and_eq_true] at h
      obtain ⟨⟨⟨h1, h2⟩, h3⟩, h4⟩ := h
      obtain ⟨rfl, g⟩ := bn_ok c h1
      obtain ⟨rfl, g'⟩ := bn_ok c h2
      exact .val (se_lenSet g (bl hG _ (by decide)) g' (bl hG _ (by decide)) (mQ_ok s c hG tk h3).1 c.calm (star_one h4)) rfl rfl
    · cases h
  | .max2 a b, X, m, W, x, c, hG, tk, h => by
    unfold mE at h; split at h
    · simp only [Bool.and_eq_true] at h
      obtain ⟨⟨⟨⟨h1, h2⟩, h3⟩, h4⟩, h5⟩ := h
      obtain ⟨rfl, g⟩ := bn_ok c h1
      exact .val (se_max2 c.calm g (bl hG _ (by decide)) (mE_ok a c hG tk h2).1 (mE_ok b c hG tk h3).1 (star_cons h4) (star_one h5)) rfl rfl
    · cases h
  | .min2 a b, X, m, W, x, c, hG, tk, h => by
    unfold mE at h; split at h
    · simp only [Bool.and_eq_true] at h
      obtain ⟨⟨⟨⟨h1, h2⟩, h3⟩, h4⟩, h5⟩ := h
      obtain ⟨rfl, g⟩ := bn_ok c h1
      exact .val (se_min2 c.calm g (bl hG _ (by decide)) (mE_ok a c hG tk h2).1 (mE_ok b c hG tk h3).1 (star_cons h4) (star_one h5)) rfl rfl
    · cases h
  | .intOf a, X, m, W, x, c, hG, tk, h => by
    unfold mE at h; split at h
    · simp only [Bool.and_eq_true] at h
      obtain ⟨rfl, g⟩ := bn_ok c h.1.1
      exact .val (se_intOf g (bl hG _ (by decide)) (mE_ok a c hG tk h.1.2).1 (star_one h.2)) rfl rfl
    · cases h
  | .gcd a b, X, m, W, x, c, hG, tk, h => by
    unfold mE at h; split at h
    · simp only [Bool.and_eq_true] at h
      obtain ⟨⟨⟨⟨⟨h1, h0⟩, h2⟩, h3⟩, h4⟩, h5⟩ := h
      obtain ⟨rfl, g⟩ := bn_ok c h1
      exact .val (se_gcd g (hG.gcd h0) (mE_ok a c hG tk h2).1 (mE_ok b c hG tk h3).1 (star_cons h4) (star_one h5)) rfl rfl
    · cases h
  | .isI a ts b, X, m, W, x, c, hG, tk, h => by
    unfold mE at h; split at h
    · simp only [Bool.and_eq_true] at h
      obtain ⟨⟨⟨h1, h2⟩, h3⟩, h4⟩ := h
      obtain ⟨rfl, g⟩ := bn_ok c h1
      have ga := (mE_ok a c hG tk h2).1
      cases b with
      | false =>
        simp only at h4
        split at h4
        · obtain ⟨k1, k2⟩ := mTy_ok (Z := Z) c hG h4
          exact .val (se_isI hG.isf hG.hK g (bl hG _ (by decide)) ga k1 (star_cons h3) (star_one k2)) rfl rfl
        · cases h4
      | true =>
        simp only at h4
        split at h4
        · simp only [Bool.and_eq_true, decide_eq_true_eq] at h4
          exact .val (se_isIT hG.isf hG.hK g (bl hG _ (by decide)) ga (mTys_ok c hG h4.1) h4.2 (star_cons h3) (star_one rfl)) rfl rfl
        · cases h4
    · cases h
  | .dget a k, X, m, W, x, c, hG, tk, h => by
    unfold mE at h; split at h
    · simp only [Bool.and_eq_true, decide_eq_true_eq] at h
      have hu := hG.units
      obtain ⟨h1, rfl⟩ := h
      exact .val (se_dget (by omega) (mE_ok a c hG tk h1).1 pe_str (fun _ _ => rfl)) rfl rfl
    · cases h
  | .disp ks es, X, m, W, x, c, hG, tk, h => by
    unfold mE at h; split at h
    · simp only [Bool.and_eq_true, decide_eq_true_eq] at h
      obtain ⟨g1, g2, g3, g4⟩ := mD_ok es c hG tk h.1
      exact .val (se_disp (g1 _) g2 g3 (by simp) h.2 g4) rfl rfl
    · cases h
  | .comp e own p it d, X, m, W, x, c, hG, tk, h => by
    unfold mE at h; split at h
    · rename_i elt tg iter ifs z sc pos
      simp only [Bool.and_eq_true, decide_eq_true_eq, List.all_eq_true] at h
      obtain ⟨⟨⟨⟨⟨⟨⟨rfl, h2⟩, h3⟩, h4⟩, h5⟩, h6⟩, h7⟩, h8⟩ := h
      have ho : (ownL m own).map (·.2) = own := by unfold ownL; rw [List.map_map]; exact (List.map_congr_left fun _ _ => rfl).trans (List.map_id _)
      have hst : StP Z p (gP Z p) := stP_all p
      exact .new (sf_comp (Z := Z) (own := own) (ow := ownL m own) (g := gP Z p) c.calm (by rw [c.N]; exact c.nd) (mW_ok it c hG tk h2.1 _ _ (.inr fun _ q => q) h2.2) (by rw [c.N, c.sc]; exact blkOk_by h4) ho (fun i hi => by have := h5 i hi; simpa using this)
        (fun s H C cl fp => (mP_ok (Z := Z) (G := G) (T := T) (blk_cok c) (hG.conv blk_same) h6).1) (fun s H C cl fp => mC_ok d (blk_cok c) (hG.conv blk_same) takes0 h7) (fun s H C cl fp => (mE_ok e (blk_cok c) (hG.conv blk_same) takes0 h8).1) hst (folded_not h3)) rfl
    · cases h
theorem mA_ok : ∀ (es : Exs) {X : Cx} {m : Mx} {W : WX} {as : List Expr}, Cok X m → GF X Z G T → L2.Takes X W → mA T m es as = true → GoodA X Z W G es as
  | .nil, X, m, W, as, c, hG, tk, h => by
    unfold mA at h; split at h
    · exact ⟨se_nil, rfl, fun _ => rfl⟩
    · cases h
  | .cons e es, X, m, W, as, c, hG, tk, h => by
    unfold mA at h; split at h
    · simp only [Bool.and_eq_true] at h
      have g := mA_ok es c hG tk h.2
      refine ⟨se_cons (mE_ok e c hG tk h.1.1).1 g.1 (star_cons h.1.2), ?_, fun q => (by cases q)⟩
      simp [noStars, h.1.2, g.2.1]
    · cases h
theorem mT_ok : ∀ (es : Exs) {X : Cx} {m : Mx} {W : WX} {as : List Expr}, Cok X m → GF X Z G T → L2.Takes X W → mT T m es as = true → AllPT X Z W G es as
  | .nil, X, m, W, as, c, hG, tk, h => by
    unfold mT at h; split at h
    · trivial
    · cases h
  | .cons e es, X, m, W, as, c, hG, tk, h => by
    unfold mT at h; split at h
    · simp only [Bool.and_eq_true] at h
      have g := mE_ok e c hG tk h.1.1
      exact ⟨⟨g.1, g.2.2 h.1.2⟩, mT_ok es c hG tk h.2⟩
    · cases h
theorem mD_ok : ∀ (es : Exs) {X : Cx} {m : Mx} {W : WX} {ks : List (List Nat)} {keys : List (Option Expr)} {vals : List Expr}, Cok X m → GF X Z G T → L2.Takes X W → mD T m es ks keys vals = true → (∀ pos, PPs X pos keys vals (trsD Z W G ks es)) ∧ keys.all (·.isSome) = true ∧ keys.length = vals.length ∧ ks.length = exN es
  | .nil, X, m, W, ks, keys, vals, c, hG, tk, h => by
    unfold mD at h
    simp only [Bool.and_eq_true, List.isEmpty_iff] at h
    obtain ⟨⟨rfl, rfl⟩, rfl⟩ := h
    exact ⟨fun _ => pps_nil, rfl, rfl, rfl⟩
  | .cons e es, X, m, W, ks, keys, vals, c, hG, tk, h => by
    unfold mD at h; split at h
    · simp only [Bool.and_eq_true, decide_eq_true_eq] at h
      obtain ⟨⟨rfl, h1⟩, h2⟩ := h
      obtain ⟨g1, g2, g3, g4⟩ := mD_ok es c hG tk h2
      exact ⟨fun pos => pps_cons pe_str (mE_ok e c hG tk h1).1 (g1 pos), by simpa using g2, by simp [g3], by simp [exN, g4]⟩
    · cases h
theorem mQ_ok : ∀ (s : Sq) {X : Cx} {m : Mx} {W : WX} {x : Expr}, Cok X m → GF X Z G T → L2.Takes X W → mQ T m s x = true → GoodQ X Z W G s x
  | .own i, X, m, W, x, c, hG, tk, h => by
    unfold mQ at h; split at h
    · obtain ⟨h1, h2, h3, h4⟩ := nmB_ok c h
      exact ⟨sq_own h1 h2 h3 h4, fun e q => (by cases q)⟩
    · cases h
  | .ex e, X, m, W, x, c, hG, tk, h => by
    unfold mQ at h
    have g := (mE_ok e c hG tk h).1
    exact ⟨sq_ex g, fun e' q => (by cases q; exact g)⟩
theorem mO_ok : ∀ (o : Exo) {X : Cx} {m : Mx} {W : WX} {x : Option Expr}, Cok X m → GF X Z G T → L2.Takes X W → mO T m o x = true → OkO X Z W G o x
  | .no, X, m, W, x, c, hG, tk, h => by
    unfold mO at h
    cases x with
    | none => trivial
    | some _ => cases h
  | .yes e, X, m, W, x, c, hG, tk, h => by
    unfold mO at h; split at h
    · exact (mE_ok e c hG tk h).1
    · cases h
theorem mC_ok : ∀ (o : Exo) {X : Cx} {m : Mx} {W : WX} {as : List Expr}, Cok X m → GF X Z G T → L2.Takes X W → mC T m o as = true → OkC X Z W G o as
  | .no, X, m, W, as, c, hG, tk, h => by
    unfold mC at h; split at h
    · trivial
    · cases h
  | .yes e, X, m, W, as, c, hG, tk, h => by
    unfold mC at h; split at h
    · simp only [Bool.and_eq_true] at h
      exact (mE_ok e c hG tk h.1).2.2 h.2
    · cases h
theorem mW_ok : ∀ (it : Wk) {X : Cx} {m : Mx} {W : WX} {x : Expr}, Cok X m → GF X Z G T → L2.Takes X W → mW T m it x = true → GoodW X Z W G it x
  | .seq s, X, m, W, x, c, hG, tk, h => by
    unfold mW at h
    have g := mQ_ok s c hG tk h
    exact fun O tg ho _ => si_seq hG.hK (sqo_of g.1 ho g.2)
  | .rng1 a, X, m, W, x, c, hG, tk, h => by
    unfold mW at h; split at h
    · simp only [Bool.and_eq_true] at h
      obtain ⟨rfl, g⟩ := bn_ok c h.1.1
      exact fun O tg ho _ => si_rng1 g (bl hG _ (by decide)) (mE_ok a c hG tk h.1.2).1 (star_one h.2)
    · cases h
  | .rng2 a b, X, m, W, x, c, hG, tk, h => by
    unfold mW at h; split at h
    · simp only [Bool.and_eq_true] at h
      obtain ⟨⟨⟨⟨h1, h2⟩, h3⟩, h4⟩, h5⟩ := h
      obtain ⟨rfl, g⟩ := bn_ok c h1
      exact fun O tg ho _ => si_rng2 g (bl hG _ (by decide)) (mE_ok a c hG tk h2).1 (mE_ok b c hG tk h3).1 (by rw [star_cons h4, star_one h5]) (star_one h5)
    · cases h
  | .enum s, X, m, W, x, c, hG, tk, h => by
    unfold mW at h; split at h
    · simp only [Bool.and_eq_true] at h
      obtain ⟨rfl, g⟩ := bn_ok c h.1.1
      have gq := mQ_ok s c hG tk h.1.2
      intro O tg ho ht
      simp only [tgOk] at ht
      split at ht
      · exact si_enum g (bl hG _ (by decide)) (slo_of gq.1 ho gq.2) (star_one h.2)
      · cases ht
    · cases h
  | .zip s t, X, m, W, x, c, hG, tk, h => by
    unfold mW at h; split at h
    · simp only [Bool.and_eq_true] at h
      obtain ⟨⟨⟨⟨h1, h2⟩, h3⟩, h4⟩, h5⟩ := h
      obtain ⟨rfl, g⟩ := bn_ok c h1
      have g1 := mQ_ok s c hG tk h2
      have g2 := mQ_ok t c hG tk h3
      intro O tg ho ht
      have hos : noOwn s = true ∨ ∀ b, ¬ O b := ho.imp (fun q => by simp only [noOwnW, Bool.and_eq_true] at q; exact q.1) fun q => q
      have hot : noOwn t = true ∨ ∀ b, ¬ O b := ho.imp (fun q => by simp only [noOwnW, Bool.and_eq_true] at q; exact q.2) fun q => q
      simp only [tgOk] at ht
      split at ht
      · exact si_zip hG.hK g (bl hG _ (by decide)) (sqo_of g1.1 hos g1.2) (sqo_of g2.1 hot g2.2) (star_cons h4) (star_one h5)
      · cases ht
    · cases h
end
end
end Mi

set_option Elab.async false
set_option linter.all false
set_option maxRecDepth 100000
set_option maxHeartbeats 8000000
/-! Mi, part 24: the matcher, statements. -/
namespace Mi
open PySem PySem.Spec PyProof.Rows L2
/-- a plain local -/
def lcB (m : Mx) (i : Nat) (x : Str) : Bool := decide (m.N[i]? = some x) && (match m.sc.names.lookup x with
  | some .local => true
  | _ => false) && dbg x
/-- the stores of a pair are exchanged -/
def pairB (x y : Str) (px py : Pos) (a b : Expr) : Bool := decide (x ≠ y) && (py.line == px.line) && notStar a && notStar b && !([a, b].all (foldedForSure 8)) && !([a, b].all (constantsAlone 8))
mutual
def mS (T : Mt) (m : Mx) : Sm → Stmt → Bool
  | .asg i e, s => (match s with
    | .Assign [.Name x _] v _ => stB m i x && mE T m e v && notComp v
    | _ => false)
  | .own i e, s => isFresh e && (match s with
    | .Assign [.Name x px] v pos => stB m i x && (if notComp v then mE T m e v else (match e, v with
      | .comp e own p it c, .ListComp elt [⟨tg, iter, ifs, z⟩] sc vp => lcB m i x && (match m.sc.kind with | .function => true | _ => false) && (px.line == vp.line) && !(sc.names.any fun (n, k) => n == x && (k == .local || k == .cell)) &&
          decide (z = 0) && (mW T m it iter && tgOk it tg) && notSet iter && blkC m.N m.sc sc (ownL m own) && (slotsP p).all (fun i => own.contains i) && mP (blkM m sc) p tg && mC T (blkM m sc) c ifs && mE T (blkM m sc) e elt
      | _, _ => false))
    | _ => false)
  | .asgT is e, s => (match s with
    | .Assign [.Tuple es k p] v _ => mP m (.tp is) (.Tuple es k p) && mE T m e v && notComp v && notTup v
    | _ => false)
  | .par i oi a j oj b, s => (match s with
    | .Assign [.Tuple [.Name x px, .Name y py] _ _] (.Tuple [a', b'] _ _) _ => decide (i ≠ j) && lcB m i x && lcB m j y && (match m.sc.kind with | .function => true | _ => false) && pairB x y px py a' b' && mE T m a a' && mE T m b b' && (!oi || isFresh a) && (!oj || isFresh b)
    | _ => false)
  | .exp e, s => (match s with
    | .Expr v _ => mE T m e v && notComp v
    | _ => false)
  | .app i e, s => (match s with
    | .Expr (.Call (.Attribute (.Name x _) y ap) [a] [] cp) _ => nmB m i x && decide (y = Str.ofString "append") && mE T m e a && notStar a && (ap.endLine == cp.line)
    | _ => false)
  | .appPop i j e, s => (match s with
    | .Expr (.Call (.Attribute (.Name x _) y ap) [.Call (.Attribute (.Name z _) y' ap') [a] [] cp'] [] cp) _ => nmB m i x && nmB m j z && decide (y = Str.ofString "append") && decide (y' = Str.ofString "pop") && mE T m e a && notStar a && (ap.endLine == cp.line) && (ap'.endLine == cp'.line)
    | _ => false)
  | .setI i k e, s => (match s with
    | .Assign [.Subscript (.Name x _) b _] v _ => nmB m i x && mE T m k b && mE T m e v && notComp v && notTup v && notSlc b
    | _ => false)
  | .dset i k e, s => (match s with
    | .Assign [.Subscript (.Name x _) (.Constant (.str y) _ _) _] v _ => nmB m i x && decide (y = toS k) && mE T m e v && notComp v
    | _ => false)
  | .sfl i f e, s => (match s with
    | .Assign [.Attribute (.Name x _) y _] v _ => nmB m i x && decide (T.anm f = y) && mE T m e v && notComp v
    | _ => false)
  | .frz _, _ => false
  | .iff c a b, s => (match s with
    | .If x sa sb _ => mE T m c x && noIf x && mSs T m a sa && mSs T m b sb
    | _ => false)
  | .whl c b, s => (match s with
    | .While x body [] _ => mE T m c x && noIf x && mSs T m b body
    | _ => false)
  | .for_ p it b, s => (match s with
    | .For tg iter body [] _ => (mW T m it iter && tgOk it tg) && noOwnW it && notSet iter && mP m p tg && mSs T m b body
    | _ => false)
  | .ret e, s => (match s with
    | .Return (some a) _ => mE T m e a
    | _ => false)
  | .retN, s => (match s with
    | .Return none _ => true
    | _ => false)
  | .pass, s => (match s with
    | .Pass _ => true
    | _ => false)
  | .brk, s => (match s with
    | .Break _ => true
    | _ => false)
  | .cnt, s => (match s with
    | .Continue _ => true
    | _ => false)
  | .never, _ => true
def mSs (T : Mt) (m : Mx) : Sms → List Stmt → Bool
  | .nil, ss => (match ss with
    | [] => true
    | _ => false)
  | .cons s r, ss => (match s with
    | .frz _ => mSs T m r ss
    | s => (match ss with
      | st :: ss => mS T m s st && mSs T m r ss
      | [] => false))
end
section
variable {X : Cx} {Z : Ci} {G : Ga} {T : Mt} {W : WX} {m : Mx}
theorem lcB_ok {i : Nat} {x : Str} (c : Cok X m) (h : lcB m i x = true) : X.N[i]? = some x ∧ X.env.scope.names.lookup x = some .local := by
  simp only [lcB, Bool.and_eq_true, decide_eq_true_eq] at h
  refine ⟨by rw [c.N]; exact h.1.1, ?_⟩
  rw [c.sc]
  have h2 := h.1.2
  split at h2
  · assumption
  · cases h2
theorem kind_ok (c : Cok X m) (h : (match m.sc.kind with | .function => true | _ => false) = true) : X.env.scope.kind = .function := by
  rw [c.sc]
  split at h
  · assumption
  · cases h
theorem pair_ok {x y : Str} {px py pt : Pos} {kt k2 : Nat} {pt2 : Pos} {a b : Expr} {env : PySem.Env} (hk : env.scope.kind = .function) (hx : env.scope.names.lookup x = some .local) (hy : env.scope.names.lookup y = some .local) (h : pairB x y px py a b = true) :
    swappedStores [.Tuple [.Name x px, .Name y py] kt pt] (.Tuple [a, b] k2 pt2) env = pure (some [x, y]) := by
  simp only [pairB, Bool.and_eq_true, decide_eq_true_eq, Bool.not_eq_true', beq_iff_eq] at h
  obtain ⟨⟨⟨⟨⟨h1, h2⟩, h3⟩, h4⟩, h5⟩, h6⟩ := h
  have kx : env.kindOf x = some .local := hx
  have ky : env.kindOf y = some .local := hy
  have hb : env.blockKind = .function := by unfold Env.blockKind; rw [hk]; rfl
  have pp : (Expr.Name x px).pos = px := rfl
  unfold swappedStores
  simp only [hb, List.filterMap_cons, List.filterMap_nil, kx, ky, List.head?_cons, Option.map_some, Option.getD_some, pp, h2, h5, h6]
  rw [if_neg (by simp)]
  rw [if_neg (fun hh => by
    rw [List.any_cons, List.any_cons, List.any_nil, Bool.or_false, Bool.or_eq_true] at hh
    rcases hh with hh | hh
    · cases a <;> first | (cases h3; done) | (cases hh; done)
    · cases b <;> first | (cases h4; done) | (cases hh; done))]
  have ne : (x == y) = false := beq_eq_false_iff_ne.mpr h1
  have ne' : (y == x) = false := beq_eq_false_iff_ne.mpr (Ne.symm h1)
  simp only [beq_self_eq_true, Bool.and_self, if_true]
  rw [if_neg (by simp [List.eraseDups, List.eraseDupsBy, List.eraseDupsBy.loop, ne, ne'])]
  simp
theorem two_star {a b : Expr} {env : PySem.Env} (h3 : notStar a = true) (h4 : notStar b = true) : starEach [a, b] env = (false, eval a env) :: starEach [b] env := star_cons h3
theorem tO_ok {e : Ex} {x : Expr} {o : Bool} (h : GoodE X Z W G e x) (ho : (!o || isFresh e) = true) : PE X x (tO Z W G o e) := by
  cases o with
  | false => exact h.1
  | true => exact h.2.1 (by simpa using ho)
theorem swaps_not1 {a t : Expr} {l : Nat} {env : PySem.Env} (h : notComp a = true) : swapsWithSole [t] a l env = pure false := swaps_not h
theorem sub_assign {o b : Expr} {pos : Pos} {env : PySem.Env} (h : notSlc b = true) (v : Value) : assign (.Subscript o b pos) env v = (do
      let ov ← holding [v] (eval o env)
      let iv ← holding [v, ov] (eval b env)
      standAt pos
      holding [v, ov, iv] (setItem ov iv v)
      release [v, ov, iv] []) := by
  cases b <;> first | rfl | cases h
theorem few1 {a : Expr} {env : PySem.Env} {cp : Pos} (h : notStar a = true) : ((backTo cp (starEach [a] env)).all (fun x => !x.1) && (backToKw cp (keywordEach [] env)).all (fun x => x.1.isSome) && decide ([a].length + ([] : List Keyword).length + (if ([] : List Keyword).isEmpty then 0 else 1) < 30)) = true := by
  rw [star_one h]; rfl
set_option maxHeartbeats 16000000 in
mutual
theorem mS_ok : ∀ (s : Sm) {st : Stmt}, Cok X m → GF X Z G T → L2.Takes X W → PassesOwn (model X.prog X.w) X.A X.env X.xe → mS T m s st = true → PS X st (tS Z W (xs1 G s))
  | .asg i e, st, c, hG, tk, hp, h => by
    unfold mS at h; split at h
    · simp only [Bool.and_eq_true] at h
      obtain ⟨g1, g2, g3⟩ := stB_ok c h.1.1
      exact ss_asg (ps_set (by rw [c.N]; exact c.nd) g1 g2 (mE_ok e c hG tk h.1.2).1 (swaps_not h.2) g3)
    · cases h
  | .own i e, st, c, hG, tk, hp, h => by
    unfold mS at h
    rw [Bool.and_eq_true] at h
    obtain ⟨hf, h⟩ := h
    split at h
    · rename_i x px v pos
      rw [Bool.and_eq_true] at h
      obtain ⟨h1, h⟩ := h
      obtain ⟨g1, g2, g3⟩ := stB_ok c h1
      split at h
      · rename_i hn
        exact ss_own hf (ps_set (by rw [c.N]; exact c.nd) g1 g2 ((mE_ok e c hG tk h).2.1 hf) (swaps_not hn) g3)
      · split at h
        · rename_i e own p it d elt tg iter ifs z sc vp hx
          simp only [Bool.and_eq_true, decide_eq_true_eq, List.all_eq_true] at h
          obtain ⟨⟨⟨⟨⟨⟨⟨⟨⟨⟨⟨h1, hk⟩, hl⟩, ha⟩, rfl⟩, h2⟩, h3⟩, h4⟩, h5⟩, h6⟩, h7⟩, h8⟩ := h
          have ho : (ownL m own).map (·.2) = own := by unfold ownL; rw [List.map_map]; exact (List.map_congr_left fun _ _ => rfl).trans (List.map_id _)
          obtain ⟨k1, k2⟩ := lcB_ok c h1
          refine ss_own hf (sa_comp (Z := Z) (own := own) (ow := ownL m own) (g := gP Z p) c.calm (by rw [c.N]; exact c.nd) k1 k2 (sw_true (kind_ok c hk) k2 hl (by simpa using ha)) (mW_ok it c hG tk h2.1 _ _ (.inr fun _ q => q) h2.2) (by rw [c.N, c.sc]; exact blkOk_by h4) ho (fun i hi => by have := h5 i hi; simpa using this)
            (fun s H C cl fp => (mP_ok (Z := Z) (G := G) (T := T) (blk_cok c) (hG.conv blk_same) h6).1) (fun s H C cl fp => mC_ok d (blk_cok c) (hG.conv blk_same) takes0 h7) (fun s H C cl fp => (mE_ok e (blk_cok c) (hG.conv blk_same) takes0 h8).1) (stP_all p) (folded_not h3))
        · cases h
    · cases h
  | .asgT is e, st, c, hG, tk, hp, h => by
    unfold mS at h; split at h
    · simp only [Bool.and_eq_true] at h
      exact ss_asgT (stP_all _) (ps_asg (mE_ok e c hG tk h.1.1.2).1 (mP_ok (Z := Z) (G := G) (T := T) c hG h.1.1.1).1 (swaps_not1 h.1.2) (stores_not h.2))
    · cases h
  | .par i oi a j oj b, st, c, hG, tk, hp, h => by
    unfold mS at h; split at h
    · simp only [Bool.and_eq_true, decide_eq_true_eq] at h
      obtain ⟨⟨⟨⟨⟨⟨⟨⟨h1, h2⟩, h3⟩, hk⟩, h4⟩, h5⟩, h6⟩, h7⟩, h8⟩ := h
      obtain ⟨k1, k2⟩ := lcB_ok c h2
      obtain ⟨k3, k4⟩ := lcB_ok c h3
      have hpp := h4
      simp only [pairB, Bool.and_eq_true] at h4
      exact ss_par h1 (ps_par c.calm (by rw [c.N]; exact c.nd) k1 k3 h1 k2 k4 (pa_two (tO_ok (mE_ok a c hG tk h5) h7) (tO_ok (mE_ok b c hG tk h6) h8) (star_cons h4.1.1.1.2) (star_one h4.1.1.2)) (pair_ok (kind_ok c hk) k2 k4 hpp))
    · cases h
  | .exp e, st, c, hG, tk, hp, h => by
    unfold mS at h; split at h
    · simp only [Bool.and_eq_true] at h
      exact ss_exp (mE_ok e c hG tk h.1).1 (swaps_not h.2)
    · cases h
  | .app i e, st, c, hG, tk, hp, h => by
    unfold mS at h; split at h
    · simp only [Bool.and_eq_true, decide_eq_true_eq] at h
      obtain ⟨⟨⟨⟨h1, rfl⟩, h3⟩, h4⟩, h5⟩ := h
      obtain ⟨g1, g2, g3, g4⟩ := nmB_ok c h1
      exact ss_app (ps_expr (pe_bm PySem.F.plainAttrs_list PySem.F.slot_list_append PySem.F.type_list_append mt_append (pe_var g1 g2 g3 g4) (pa_one (mE_ok e c hG tk h3).1 (star_one h4)) (base_not rfl) (few1 h4) h5 (star_one h4) rfl) (swaps_not rfl))
    · cases h
  | .appPop i j e, st, c, hG, tk, hp, h => by
    unfold mS at h; split at h
    · simp only [Bool.and_eq_true, decide_eq_true_eq] at h
      obtain ⟨⟨⟨⟨⟨⟨⟨h1, h2⟩, rfl⟩, rfl⟩, h3⟩, h4⟩, h5⟩, h6⟩ := h
      obtain ⟨g1, g2, g3, g4⟩ := nmB_ok c h1
      obtain ⟨k1, k2, k3, k4⟩ := nmB_ok c h2
      exact ss_appPop (ps_expr (pe_bm PySem.F.plainAttrs_list PySem.F.slot_list_append PySem.F.type_list_append mt_append (pe_var g1 g2 g3 g4) (pa_one (pe_bm PySem.F.plainAttrs_list PySem.F.slot_list_pop PySem.F.type_list_pop mt_popAt (pe_var k1 k2 k3 k4) (pa_one (mE_ok e c hG tk h3).1 (star_one h4)) (base_not rfl) (few1 h4) h6 (star_one h4) rfl) (star_one rfl)) (base_not rfl) (few1 rfl) h5 (star_one rfl) rfl) (swaps_not rfl))
    · cases h
  | .setI i k e, st, c, hG, tk, hp, h => by
    unfold mS at h; split at h
    · simp only [Bool.and_eq_true] at h
      obtain ⟨⟨⟨⟨⟨h1, h2⟩, h3⟩, h4⟩, h5⟩, h6⟩ := h
      obtain ⟨g1, g2, g3, g4⟩ := nmB_ok c h1
      exact ss_setI (ps_asg (mE_ok e c hG tk h3).1 (pg_sub (pe_var g1 g2 g3 g4) (mE_ok k c hG tk h2).1 set_list (sub_assign h6)) (swaps_not1 h4) (stores_not h5))
    · cases h
  | .dset i k e, st, c, hG, tk, hp, h => by
    unfold mS at h; split at h
    · simp only [Bool.and_eq_true, decide_eq_true_eq] at h
      obtain ⟨⟨⟨h1, rfl⟩, h3⟩, h4⟩ := h
      obtain ⟨g1, g2, g3, g4⟩ := nmB_ok c h1
      have hu := hG.units
      exact ss_dset (ps_dput (by omega) (pe_var g1 g2 g3 g4) pe_str (mE_ok e c hG tk h3).1 (swaps_not h4))
    · cases h
  | .sfl i f e, st, c, hG, tk, hp, h => by
    unfold mS at h; split at h
    · simp only [Bool.and_eq_true, decide_eq_true_eq] at h
      obtain ⟨⟨⟨h1, rfl⟩, h3⟩, h4⟩ := h
      obtain ⟨g1, g2, g3, g4⟩ := nmB_ok c h1
      exact ss_sfl hG.fld (ps_fld (pe_var g1 g2 g3 g4) (mE_ok e c hG tk h3).1 (swaps_not h4))
    · cases h
  | .frz i, st, c, hG, tk, hp, h => by unfold mS at h; cases h
  | .iff d a b, st, c, hG, tk, hp, h => by
    unfold mS at h; split at h
    · simp only [Bool.and_eq_true] at h
      exact ss_iff ((mE_ok d c hG tk h.1.1.1).2.2 h.1.1.2) (mSs_ok a c hG tk hp h.1.2) (mSs_ok b c hG tk hp h.2)
    · cases h
  | .whl d b, st, c, hG, tk, hp, h => by
    unfold mS at h; split at h
    · simp only [Bool.and_eq_true] at h
      exact ss_whl hp ((mE_ok d c hG tk h.1.1).2.2 h.1.2) (mSs_ok b c hG tk hp h.2)
    · cases h
  | .for_ p it b, st, c, hG, tk, hp, h => by
    unfold mS at h; split at h
    · simp only [Bool.and_eq_true] at h
      obtain ⟨⟨⟨⟨h1, h2⟩, h3⟩, h4⟩, h5⟩ := h
      exact ss_for hp c.calm (fun O => mW_ok it c hG tk h1.1 O _ (.inl h2) h1.2) (mP_ok (Z := Z) (G := G) (T := T) c hG h4).1 (stP_all p) (mSs_ok b c hG tk hp h5) (folded_not h3)
    · cases h
  | .ret e, st, c, hG, tk, hp, h => by
    unfold mS at h; split at h
    · exact ss_ret (mE_ok e c hG tk h).1
    · cases h
  | .retN, st, c, hG, tk, hp, h => by
    unfold mS at h; split at h
    · exact ss_retN
    · cases h
  | .pass, st, c, hG, tk, hp, h => by
    unfold mS at h; split at h
    · exact ss_pass
    · cases h
  | .brk, st, c, hG, tk, hp, h => by
    unfold mS at h; split at h
    · exact ss_brk
    · cases h
  | .cnt, st, c, hG, tk, hp, h => by
    unfold mS at h; split at h
    · exact ss_cnt
    · cases h
  | .never, st, c, hG, tk, hp, h => ss_never
theorem mSs_ok : ∀ (ss : Sms) {sts : List Stmt}, Cok X m → GF X Z G T → L2.Takes X W → PassesOwn (model X.prog X.w) X.A X.env X.xe → mSs T m ss sts = true → PSs X sts (tS Z W (xss G ss))
  | .nil, sts, c, hG, tk, hp, h => by
    unfold mSs at h; split at h
    · exact ss_nil
    · cases h
  | .cons s r, sts, c, hG, tk, hp, h => by
    unfold mSs at h
    split at h
    · exact ss_frz (mSs_ok r c hG tk hp h)
    · split at h
      · simp only [Bool.and_eq_true] at h
        exact ss_cons (mS_ok s c hG tk hp h.1) (mSs_ok r c hG tk hp h.2)
      · cases h
end
end
end Mi

set_option Elab.async false
set_option linter.all false
set_option maxRecDepth 100000
set_option maxHeartbeats 8000000
/-! Mi, part 25: defs. -/
namespace Mi
open PySem PySem.Spec PyProof.Rows L2
/-- a def of the text -/
structure Fx where
  name : Str
  qual : Str
  params : Arguments
  body : List Stmt
  scope : Scope
  N : List Str
  ps : List Str
  dvs : List V
def lev (n : Nat) : Nat := 3 * n
/-- the parameters that stand ahead of the arguments: self -/
def ext1 (f : Fd) : Nat := match f.ini with
  | none => 0
  | some _ => 1
structure FnF (K : PySem.W.Frag) (Z : Ci) (T : Mt) (f : Fd) (x : Fx) (a : Addr) (ar : Nat → Bool) : Prop where
  fd : ∃ fd, FunD K x.name x.qual x.params x.body x.scope x.dvs [] a fd ∧ ∀ k, ar k = true → k ≤ x.ps.length ∧ x.ps.length ≤ k + x.dvs.length ∧ ∃ ds, Vals (x.dvs.drop (x.dvs.length - (x.ps.length - k))) ds ∧ Binds K fd x.ps ds
  sc : FnScope x.N x.ps x.scope
  np : f.np = x.ps.length
  ns : f.ns = x.N.length
  dfl : ∀ F ρ, Reps Z F ρ f.dfl x.dvs
  body : mSs T ⟨x.N, x.scope, fun _ => true⟩ f.body x.body = true
  ini : ∀ c, f.ini = some c → ∃ y r, x.ps = y :: r
/-- what is known of a law's text -/
structure LF (K : PySem.W.Frag) (mg : Str → Option Value) (Z : Ci) (T : Mt) (P : Pg) (adr : Nat → Addr) (fx : Nat → Fx) (ar : Nat → Nat → Bool) : Prop where
  hK : K = Z.K
  fn : ∀ i f, P.fns i = some f → FnF K Z T f (fx i) (adr i) (ar i)
  call : ∀ f x k, T.fnm f = some x → T.far f k = true → mg x = some (.ref (adr f)) ∧ ∃ d, P.fns f = some d ∧ d.ini = none ∧ ar f k = true
  cnm : ∀ c x, T.cnm c = some x → mg x = some (.ref (Z.ca c))
  new : ∀ c k, T.car c k = true → ∃ cl f, P.cls c = some cl ∧ P.fns cl.init = some f ∧ f.ini = some c ∧ Mk K (Z.ca c) (adr cl.init) ∧ ar cl.init (k + 1) = true
  mth : ∀ i y k, T.mnm i = some y → T.mar i k = true → (∃ c cl f, P.cls c = some cl ∧ cl.mth i = some f) ∧ ∀ c cl f, P.cls c = some cl → cl.mth i = some f → Cls K (Z.ca c) ∧ Meth K (Z.ca c) y (adr f) ∧ (∀ z ∈ Z.cn c, z ≠ y) ∧ ∃ d, P.fns f = some d ∧ d.ini = none ∧ ar f (k + 1) = true
  con : ∀ i x, T.knm i = some x → ∃ d v u, P.con i = some d ∧ mg x = some u ∧ RelV v u ∧ ∀ F ρ, Rep Z F ρ d v
  blt : ∀ x ∈ blts, mg x = none
  gcd : T.gcd = true → mg "gcd" = some (.builtin "math.gcd")
  fld : ∀ c cl, P.cls c = some cl → Z.cn c = cl.at_.map T.anm ∧ (∀ f g, f < T.na → g ∈ cl.at_ → T.anm g = T.anm f → g = f) ∧ Cls K (Z.ca c) ∧ (∀ f ∈ cl.at_, NoAttr K (Z.ca c) (T.anm f)) ∧ cl.at_.Nodup ∧ ∀ f ∈ cl.at_, f < T.na
  op : ∀ o c cl f, P.cls c = some cl → cl.op o = some f → PySem.W.selfFirst K (Z.ca c) = true ∧ OpD K (Z.ca c) (adr f) (opN o) ∧ PySem.W.subIn K (.type "int") (.ref (Z.ca c)) = some false ∧ ∃ d, P.fns f = some d ∧ d.ini = none ∧ ar f 2 = true
  op2 : ∀ (o : Bi) c k f d k' f', P.cls c = some k → k.op o = some f → P.cls d = some k' → k'.op o = some f' → Z.ca c ≠ Z.ca d → PySem.W.subIn K (.ref (Z.ca d)) (.ref (Z.ca c)) = some false
  rev : ∀ o c cl f, P.cls c = some cl → cl.rop o = some f → PySem.W.selfFirst K (Z.ca c) = true ∧ (∃ b, PySem.W.findIn K (.ref (Z.ca c)) (dunderR (opN o)) = some (some (.ref (adr f))) ∧ PySem.W.isFn K (.ref (adr f)) = true ∧ PySem.W.findIn K (.ref (Z.ca c)) (PySem.dunder (opN o)) = some (some (.ref b))) ∧ PySem.W.subIn K (.ref (Z.ca c)) (.type "int") = some false ∧ ∃ d, P.fns f = some d ∧ d.ini = none ∧ ar f 2 = true
  iop : ∀ o, (∃ c cl f, P.cls c = some cl ∧ cl.rop o = some f) → IntOp o
  int : ∀ o : Bi, ∃ fo ro, PySem.W.findIn K (.type "int") (PySem.dunder (opN o)) = some fo ∧ PySem.W.findIn K (.type "int") (dunderR (opN o)) = some ro
  neg : ∀ c cl f, P.cls c = some cl → cl.neg = some f → PySem.W.findIn K (.ref (Z.ca c)) "__neg__" = some (some (.ref (adr f))) ∧ PySem.W.isFn K (.ref (adr f)) = true ∧ ∃ d, P.fns f = some d ∧ d.ini = none ∧ ar f 1 = true
  kit : ∀ d t, (match d with | D.ins c _ => (P.cls c).isSome | _ => true) = true → (match t with | Ty.cls c => (P.cls c).isSome | _ => true) = true → PySem.W.kitOne K (tyVal Z d) (tyTgt Z t) = some (tyIs t d)
  kcl : ∀ c, (P.cls c).isSome = true → PySem.W.findIn K (.ref (Z.ca c)) "__class__" = some (some (.builtin "object.__class__")) ∧ PySem.W.mroIn K (Z.ca c) (.type "object") = some true
  kget : PySem.W.specialIn K (.builtin "object.__class__") "__get__" = some (some (.builtin "getset_descriptor.__get__")) ∧ PySem.W.takesIn K (.builtin "object.__class__") = some true
theorem padU_eq : ∀ (n : Nat) (v : Env), padU n v = v ++ List.replicate n .un
  | 0, v => by simp [padU]
  | n + 1, v => by rw [padU, padU_eq n, List.append_assoc]; rfl
theorem filled_full {f : Fd} {ds : List D} (h : ds.length = f.np) : filled f ds = some ds := by
  unfold filled
  simp [h]
theorem filled_more {f : Fd} {l : List D} {k : Nat} (hl : l.length = k) (h1 : k ≤ f.np) (h2 : f.np ≤ k + f.dfl.length) : filled f l = some (l ++ f.dfl.drop (f.dfl.length - (f.np - k))) := by
  unfold filled
  subst hl
  simp only
  rw [if_pos ⟨h1, by omega⟩]
theorem runF_more {G : Ga} {f : Fd} {l : List D} {k : Nat} {S : Sto} (hl : l.length + ext1 f = k) (h1 : k ≤ f.np) (h2 : f.np ≤ k + f.dfl.length) : runF G f l S = runF G f (l ++ f.dfl.drop (f.dfl.length - (f.np - k))) S := by
  have hd : (l ++ f.dfl.drop (f.dfl.length - (f.np - k))).length + ext1 f = f.np := by
    rw [List.length_append, List.length_drop]; omega
  unfold runF
  cases e : f.ini with
  | none =>
    have e1 : ext1 f = 0 := by unfold ext1; rw [e]
    rw [e1] at hl hd
    simp only
    rw [filled_more (by omega) h1 h2, filled_full (by omega)]
  | some c =>
    have e1 : ext1 f = 1 := by unfold ext1; rw [e]
    rw [e1] at hl hd
    simp only
    rw [filled_more (l := .non :: l) (k := k) (by simp; omega) h1 h2, filled_full (ds := .non :: (l ++ _)) (by simp at hd ⊢; omega)]
    rfl
section
variable {K : PySem.W.Frag} {mg : Str → Option Value} {Z : Ci} {T : Mt} {P : Pg} {adr : Nat → Addr} {fx : Nat → Fx} {ar : Nat → Nat → Bool} {prog : Program} {w : World} {base : Heap} {fuel : Nat}
/-- a def's promise at depth n -/
def spN (Z : Ci) (P : Pg) (fuel n i : Nat) (f : Fd) : Sp := match f.ini with
  | none => spF Z (callN P fuel n i) f.np
  | some c => spI Z (callN P fuel n i) c f.np
/-- all defs keep their promises at depth n -/
def FnsOk (K : PySem.W.Frag) (mg : Str → Option Value) (Z : Ci) (P : Pg) (adr : Nat → Addr) (fx : Nat → Fx) (prog : Program) (w : World) (base : Heap) (fuel n : Nat) : Prop := ∀ i f, P.fns i = some f → ∀ fd, FunD K (fx i).name (fx i).qual (fx i).params (fx i).body (fx i).scope (fx i).dvs [] (adr i) fd →
  FnOk prog w K mg base (L2.CX prog w) (lev n) (adr i) fd (fx i).ps (spN Z P fuel n i f)
theorem callN_more {n i k : Nat} {f : Fd} {l : List D} {S : Sto} (hf : P.fns i = some f) (hl : l.length + ext1 f = k) (h1 : k ≤ f.np) (h2 : f.np ≤ k + f.dfl.length) : callN P fuel n i l S = callN P fuel n i (l ++ f.dfl.drop (f.dfl.length - (f.np - k))) S := by
  cases n with
  | zero => rfl
  | succ n =>
    unfold callN
    rw [hf]
    exact runF_more hl h1 h2
theorem drop_reps {F : Hp} {ρ : List Addr} {l : List D} {vs : List V} (h : Reps Z F ρ l vs) (n : Nat) : Reps Z F ρ (l.drop (l.length - n)) (vs.drop (vs.length - n)) := by
  rw [h.len]; exact h.drop _
theorem calF_of {X : Cx} {n i k : Nat} {d : Fd} (L : LF K mg Z T P adr fx ar) (IH : FnsOk K mg Z P adr fx X.prog X.w X.base fuel n) (hr : Room (lev n) X.A) (e3 : X.K = K) (e4 : X.mg = mg) (hf : P.fns i = some d) (hi : d.ini = none) (ha : ar i k = true) : CalF X Z (callN P fuel n i) (adr i) k := by
  have FF := L.fn i d hf
  obtain ⟨fd, hfd, hb⟩ := FF.fd
  obtain ⟨h1, h2, ds, hd, hB⟩ := hb k ha
  have hok := IH i d hf fd hfd
  have e1 : ext1 d = 0 := by unfold ext1; rw [hi]
  have hdl : d.dfl.length = (fx i).dvs.length := (FF.dfl (fun _ => none) []).len
  refine ⟨fd, (fx i).ps, _, ds, d.dfl.drop (d.dfl.length - (d.np - k)), lev n, ?_, hr, by rw [e3]; exact hB, hd, ?_, fun F ρ => ?_, fun l S hl => callN_more hf (by omega) (by rw [FF.np]; exact h1) (by rw [FF.np, hdl]; exact h2)⟩
  · rw [e3, e4, ← FF.np]
    unfold spN at hok
    rw [hi] at hok
    exact hok
  · rw [List.length_drop]; omega
  · rw [FF.np]
    exact drop_reps (FF.dfl F ρ) _
theorem calI_of {X : Cx} {n i c k : Nat} {d : Fd} (L : LF K mg Z T P adr fx ar) (IH : FnsOk K mg Z P adr fx X.prog X.w X.base fuel n) (hr : Room (lev n + 1) X.A) (e3 : X.K = K) (e4 : X.mg = mg) (hf : P.fns i = some d) (hi : d.ini = some c) (ha : ar i (k + 1) = true) (hM : Mk K (Z.ca c) (adr i)) : CalI X Z (callN P fuel n i) c k := by
  have FF := L.fn i d hf
  obtain ⟨fd, hfd, hb⟩ := FF.fd
  obtain ⟨h1, h2, ds, hd, hB⟩ := hb (k + 1) ha
  have hok := IH i d hf fd hfd
  have e1 : ext1 d = 1 := by unfold ext1; rw [hi]
  have hdl : d.dfl.length = (fx i).dvs.length := (FF.dfl (fun _ => none) []).len
  refine ⟨adr i, fd, (fx i).ps, _, ds, d.dfl.drop (d.dfl.length - (d.np - (k + 1))), lev n, by rw [e3]; exact hM, ?_, hr, by rw [e3]; exact hB, hd, ?_, fun F ρ => ?_, fun l S hl => callN_more hf (by omega) (by rw [FF.np]; exact h1) (by rw [FF.np, hdl]; exact h2)⟩
  · rw [e3, e4, ← FF.np]
    unfold spN at hok
    rw [hi] at hok
    exact hok
  · rw [List.length_drop]; omega
  · rw [FF.np]
    exact drop_reps (FF.dfl F ρ) _
theorem opsF_of {X : Cx} {n : Nat} {o : Bi} (L : LF K mg Z T P adr fx ar) (IH : FnsOk K mg Z P adr fx X.prog X.w X.base fuel n) (hr : Room (lev n) X.A) (e3 : X.K = K) (e4 : X.mg = mg) : OpsF X Z (gaOf P fuel n) o := by
  refine ⟨fun c k f h1 h2 => ?_, fun c k f d k' f' h1 h2 h3 h4 h5 => by rw [e3]; exact L.op2 o c k f d k' f' h1 h2 h3 h4 h5, fun c k f h1 h2 => ?_, by rw [e3]; exact L.int o⟩
  · obtain ⟨g1, g2, g3, d, g4, g5, g6⟩ := L.op o c k f h1 h2
    rw [e3]
    exact ⟨g1, ⟨adr f, g2, calF_of L IH hr e3 e4 g4 g5 g6⟩, g3⟩
  · obtain ⟨g1, ⟨b, g2, g3, g3'⟩, g4, d, g5, g6, g7⟩ := L.rev o c k f h1 h2
    rw [e3]
    exact ⟨g1, ⟨adr f, b, g2, g3, g3', calF_of L IH hr e3 e4 g5 g6 g7⟩, g4⟩
theorem gf_of {X : Cx} {n : Nat} (L : LF K mg Z T P adr fx ar) (IH : FnsOk K mg Z P adr fx X.prog X.w X.base fuel n) (hr : Room (lev n + 2) X.A) (e3 : X.K = K) (e4 : X.mg = mg) : GF X Z (gaOf P fuel n) T := by
  have r0 : Room (lev n) X.A := hr.mono (by omega)
  have r1 : Room (lev n + 1) X.A := hr.mono (by omega)
  have cal : ∀ {i k : Nat} {d : Fd}, P.fns i = some d → d.ini = none → ar i k = true → CalF X Z ((gaOf P fuel n).call i) (adr i) k := fun h1 h2 h3 => calF_of L IH r0 e3 e4 h1 h2 h3
  have un := hr.un
  refine ⟨e3.trans L.hK, by omega, fun f x k h1 h2 => ?_, fun c x k h1 h2 => ?_, fun c x h1 => by rw [e4]; exact L.cnm c x h1, fun i y k h1 h2 => ?_, fun i x h1 => by rw [e4]; exact L.con i x h1, fun x hx => by rw [e4]; exact L.blt x hx, fun g => by rw [e4]; exact L.gcd g, fun c k h1 => ?_, fun o => opsF_of L IH r0 e3 e4,
    opsF_of (X := X1 X) L IH (show Room (lev n) X.A.in1 from (r1.in1)) e3 e4, L.iop, ⟨fun c k f h1 h2 => ?_⟩, ⟨fun d t h1 h2 => ?_, fun c h1 => ?_, by rw [e3]; exact L.kget⟩⟩
  · obtain ⟨g1, d, g2, g3, g4⟩ := L.call f x k h1 h2
    obtain ⟨fd, hfd, _⟩ := (L.fn f d g2).fd
    rw [e3, e4]
    exact ⟨adr f, g1, hfd.kp, cal g2 g3 g4⟩
  · obtain ⟨cl, f, g1, g2, g3, g4, g5⟩ := L.new c k h2
    rw [e4]
    exact ⟨L.cnm c x h1, cl, g1, calI_of L IH r1 e3 e4 g2 g3 g5 g4⟩
  · obtain ⟨g1, g2⟩ := L.mth i y k h1 h2
    refine ⟨g1, fun c cl f h3 h4 => ?_⟩
    obtain ⟨k1, k2, k3, d, k4, k5, k6⟩ := g2 c cl f h3 h4
    rw [e3]
    exact ⟨adr f, k1, k2, k3, cal k4 k5 k6⟩
  · obtain ⟨g1, g2, g3, g4, g5, g6⟩ := L.fld c k h1
    exact ⟨g1, g2, by rw [e3]; exact g3, by rw [e3]; exact g4, g5, g6⟩
  · obtain ⟨g1, g2, d, g3, g4, g5⟩ := L.neg c k f h1 h2
    rw [e3]
    exact ⟨adr f, g1, g2, cal g3 g4 g5⟩
  · rw [e3]
    refine L.kit d t ?_ ?_
    · cases d <;> first | rfl | exact h1
    · cases t <;> first | rfl | exact h2
  · rw [e3]
    obtain ⟨k, hk⟩ := Option.isSome_iff_exists.mp h1
    exact ⟨(L.fld c k hk).2.2.1, L.kcl c h1⟩
end
end Mi

set_option Elab.async false
set_option linter.all false
set_option maxRecDepth 100000
set_option maxHeartbeats 8000000
/-! Mi, part 26: every def keeps its promise. -/
namespace Mi
open PySem PySem.Spec PyProof.Rows L2
section
variable {K : PySem.W.Frag} {mg : Str → Option Value} {Z : Ci} {T : Mt} {P : Pg} {adr : Nat → Addr} {fx : Nat → Fx} {ar : Nat → Nat → Bool} {prog : Program} {w : World} {base : Heap} {fuel : Nat}
/-- the slots at the entry -/
theorem start_st0 {N : List Str} {sl : List Sl} {vs : List V} {F H : Hp} {ρ : List Addr} {S : Sto} {B : List Bs} {n : Nat} (hl : sl.length = vs.length) (hn : sl.length + n = N.length) (hs : StoR Z F ρ S H) (hB : Kp B F ρ H)
    (at_ : ∀ (i : Nat) (s : Sl) (x : V), sl[i]? = some s → vs[i]? = some x → SlR Z F ρ H s (some x)) (one : ∀ (i : Nat) (s : Sl), sl[i]? = some s → (∃ d, s = .va d) ∨ (i = 0 ∧ ∃ c fs a, s = .sf c fs ∧ vs[i]? = some (.ref a) ∧ a ∉ ρ ∧ Mine B a ∧ ∀ b ∈ B, b.sf a)) :
    St0 Z B (padU n sl) S F ρ (start N vs) H := by
  rw [padU_eq]
  have cs : ∀ {i : Nat} {s : Sl} {o : Option V}, (sl ++ List.replicate n Sl.un)[i]? = some s → (start N vs)[i]? = some o → s = .un ∨ ∃ x, sl[i]? = some s ∧ vs[i]? = some x ∧ o = some x := by
    intro i s o h1 h2
    by_cases hi : i < sl.length
    · rw [List.getElem?_append_left hi] at h1
      unfold L2.start at h2
      rw [List.getElem?_append_left (by simp; omega), List.getElem?_map] at h2
      cases e : vs[i]? with
      | none => rw [e] at h2; cases h2
      | some x => rw [e] at h2; cases h2; exact .inr ⟨x, h1, rfl, rfl⟩
    · rw [List.getElem?_append_right (by omega), List.getElem?_replicate] at h1
      split at h1
      · cases h1; exact .inl rfl
      · cases h1
  have ow : ∀ {i : Nat} {s : Sl} {o : Option V} {a : Addr}, (sl ++ List.replicate n Sl.un)[i]? = some s → (start N vs)[i]? = some o → Own s o a → i = 0 ∧ a ∉ ρ ∧ Mine B a := by
    intro i s o a h1 h2 w
    rcases cs h1 h2 with rfl | ⟨x, g1, g2, rfl⟩
    · exact w.1.elim
    · rcases one i s g1 with ⟨d, rfl⟩ | ⟨rfl, c, fs, b, rfl, g3, g4, g5, _⟩
      · exact w.1.elim
      · rw [g2] at g3; cases g3
        have := w.2; cases this
        exact ⟨rfl, g4, g5⟩
  refine ⟨⟨?_, fun i s o h1 h2 => ?_, fun i j s t o p a h1 h2 h3 h4 w1 w2 => (ow h1 h2 w1).1.trans (ow h3 h4 w2).1.symm, fun i s o a h1 h2 w => (ow h1 h2 w).2.1⟩, hs, hB, fun i s o a h1 h2 w => (ow h1 h2 w).2.2, fun b hb i c fs a h1 h2 => ?_⟩
  · unfold L2.start
    rw [List.length_append, List.length_replicate, List.length_append, List.length_map, List.length_replicate]; omega
  · rcases cs h1 h2 with rfl | ⟨x, g1, g2, rfl⟩
    · trivial
    · exact at_ i s x g1 g2
  · rcases cs h1 h2 with e | ⟨x, g1, g2, e⟩
    · cases e
    · cases e
      rcases one i _ g1 with ⟨d, q⟩ | ⟨rfl, c', fs', b', q, g3, g4, g5, g6⟩
      · cases q
      · rw [g2] at g3; cases g3; exact g6 b hb
/-- a body's end is the call's -/
theorem fin_fn {r : R Fl} {F H : Hp} {ρ : List Addr} {Q : VK} {E : XK} (h : PostA Z (fun cls dx _ H' => E cls dx H') (r.bind fun r S => (match r with | .rt d => R.ok d S | .nx _ => .ok .non S | _ => .bad)) (pV Z) F ρ [] H Q) :
    PostS Z (fun cls dx _ H' => E cls dx H') [⟨nO, F, ρ, H, fun _ => True⟩] r { nx := fun _ H' => Q .non H', rt := Q } := by
  cases r with
  | bad => exact h
  | ex c fs S => exact fun cls dx σ F' ρ' H' k s x => h cls dx F' ρ' H' (k _ List.mem_cons_self) s x
  | ok a S =>
    cases a with
    | nx v => exact fun σ F' ρ' H' st => h .non F' ρ' H' (st.ext _ List.mem_cons_self) st.sto .non
    | rt d => exact fun x F' ρ' H' k s r => h x F' ρ' H' (k _ List.mem_cons_self) s r
    | bk v => exact h.elim
    | ct v => exact h.elim
theorem fin_in {r : R Fl} {F H : Hp} {ρ : List Addr} {Q : VK} {E : XK} {c n : Nat} {a : Addr} (hn : n = (Z.cn c).length) (h : PostI Z (r.bind fun r S => (match r with | .nx (.sf c' fs :: _) => if c' = c ∧ fs.length = n then R.ok (D.ins c fs) S else .bad | _ => .bad)) c a F ρ H (fun H' => Q .non H') E) :
    PostS Z (fun cls dx _ H' => E cls dx H') [⟨fun b => b = a, F, ρ, H, fun b => b = a⟩] r { nx := fun _ H' => Q .non H', rt := Q } := by
  cases r with
  | bad => exact h
  | ex c fs S => exact fun cls dx σ F' ρ' H' k s x => h cls dx F' ρ' H' (k _ List.mem_cons_self) s x
  | ok b S =>
    cases b with
    | nx v =>
      intro σ F' ρ' H' st
      cases v with
      | nil => exact h.elim
      | cons s v =>
        cases s with
        | sf c' fs =>
          simp only [R.bind] at h
          split at h
          · rename_i hc
            obtain ⟨rfl, hc2⟩ := hc
            obtain ⟨_, h⟩ := h
            have hlen := st.env.len
            cases σ with
            | nil => cases hlen
            | cons o σ =>
              obtain ⟨b, dx, vs, rfl, h1, h2, h3, h4⟩ := st.env.at_ 0 _ _ rfl rfl
              have hb : b = a := st.slf _ List.mem_cons_self 0 _ _ b rfl rfl
              subst hb
              exact h vs dx F' ρ' H' (st.ext _ List.mem_cons_self) st.sto h1 (by rw [← h4.len, hc2, hn]) h3 h4
          · exact h.elim
        | _ => exact h.elim
    | rt d => exact h.elim
    | bk v => exact h.elim
    | ct v => exact h.elim
theorem fns_ok (L : LF K mg Z T P adr fx ar) : ∀ n, FnsOk K mg Z P adr fx prog w base fuel n
  | 0, i, f, hf, fd, hfd => by
    refine ⟨fun vs H Q E h => ?_, fun A outer s H args us vs Q E hr he hb hv hs => ?_⟩
    · unfold spN at h
      cases e : f.ini with
      | none => rw [e] at h; obtain ⟨_, F, ρ, S, ds, _, _, q⟩ := h; exact q.elim
      | some c => rw [e] at h; obtain ⟨_, a, dx, us, F, ρ, S, ds, _, _, _, _, _, q⟩ := h; exact q.elim
    · exfalso
      unfold spN at hs
      cases e : f.ini with
      | none => rw [e] at hs; obtain ⟨_, F, ρ, S, ds, _, _, q⟩ := hs; exact q.elim
      | some c => rw [e] at hs; obtain ⟨_, a, dx, us, F, ρ, S, ds, _, _, _, _, _, q⟩ := hs; exact q.elim
  | n + 1, i, f, hf, fd, hfd => by
    have FF := L.fn i f hf
    have IH : FnsOk K mg Z P adr fx prog w base fuel n := fns_ok L n
    refine hfd.ok (k := lev n + 2) FF.sc (fun vs H Q E h => ?_) fun cdv A outer s H vs Q E hr hsp => ?_
    · unfold spN at h
      cases e : f.ini with
      | none => rw [e] at h; obtain ⟨hl, _⟩ := h; rw [hl, FF.np]
      | some c => rw [e] at h; obtain ⟨hl, _⟩ := h; rw [hl, FF.np]
    · have cok : Cok (cxOf (L2.CX prog w) prog w K mg base (fx i).N (fx i).qual (fx i).scope (adr i) cdv A outer s H E) ⟨(fx i).N, (fx i).scope, fun _ => true⟩ := ⟨rfl, FF.sc.nd, rfl, rfl, rfl⟩
      have gf : GF (cxOf (L2.CX prog w) prog w K mg base (fx i).N (fx i).qual (fx i).scope (adr i) cdv A outer s H E) Z (gaOf P fuel n) T := gf_of L IH hr rfl rfl
      have tk : L2.Takes (cxOf (L2.CX prog w) prog w K mg base (fx i).N (fx i).qual (fx i).scope (adr i) cdv A outer s H E) (fun cls d _ H => E cls d H) := takes_of rfl rfl rfl rfl
      refine ⟨_, mSs_ok (W := fun cls d _ H => E cls d H) f.body cok gf tk (passes_of rfl) FF.body, ?_⟩
      unfold spN at hsp
      cases e : f.ini with
      | none =>
        rw [e] at hsp
        obtain ⟨hl, F, ρ, S, ds, h1, h2, q⟩ := hsp
        have hdl : ds.length = f.np := by rw [h2.len, hl]
        have hpl : (fx i).ps.length ≤ (fx i).N.length := by have := congrArg List.length FF.sc.pre; rw [List.length_take] at this; omega
        unfold callN at q
        simp only [hf] at q
        unfold runF at q
        simp only [e, filled_full hdl] at q
        refine ⟨[⟨nO, F, ρ, H, fun _ => True⟩], padU (f.ns - ds.length) (ds.map .va), S, F, ρ, start_st0 (by rw [List.length_map]; exact h2.len) (by rw [List.length_map, FF.ns]; have := FF.np; omega) h1 (fun b hb => ?_) (fun j s x g1 g2 => ?_) (fun j s g1 => ?_), fin_fn q⟩
        · rw [List.mem_singleton.mp hb]; exact .refl
        · rw [List.getElem?_map] at g1
          cases ed : ds[j]? with
          | none => rw [ed] at g1; cases g1
          | some d =>
            rw [ed] at g1; cases g1
            obtain ⟨y, hy, ry⟩ := h2.get ed
            rw [g2] at hy; cases hy
            exact ⟨x, rfl, ry⟩
        · rw [List.getElem?_map] at g1
          cases ed : ds[j]? with
          | none => rw [ed] at g1; cases g1
          | some d => rw [ed] at g1; cases g1; exact .inl ⟨d, rfl⟩
      | some c =>
        rw [e] at hsp
        obtain ⟨hl, a, dx, us, F, ρ, S, ds, rfl, hH, hFa, h1, h2, q⟩ := hsp
        have hdl : (D.non :: ds).length = f.np := by rw [List.length_cons, h2.len]; exact hl
        have hpl : (fx i).ps.length ≤ (fx i).N.length := by have := congrArg List.length FF.sc.pre; rw [List.length_take] at this; omega
        have nin : a ∉ ρ := h1.notin hH fun _ z => by cases z
        unfold callN at q
        simp only [hf] at q
        unfold runF at q
        simp only [e, filled_full hdl] at q
        cases ec : (gaOf P fuel n).cls c with
        | none =>
          have ec' : P.cls c = none := ec
          simp only [ec'] at q
          exact q.elim
        | some k =>
          have ec' : P.cls c = some k := ec
          simp only [ec'] at q
          have hcn : k.at_.length = (Z.cn c).length := by rw [(L.fld c k ec').1, List.length_map]
          refine ⟨[⟨fun b => b = a, F, ρ, H, fun b => b = a⟩], padU (f.ns - (ds.length + 1)) (.sf c [] :: ds.map .va), S, F, ρ, start_st0 (by simp [h2.len]) (by simp; have := FF.ns; have := FF.np; simp at hdl; omega) h1 (fun b hb => ?_) (fun j s x g1 g2 => ?_) (fun j s g1 => ?_), fin_in hcn q⟩
          · rw [List.mem_singleton.mp hb]; exact .refl
          · cases j with
            | zero => cases g1; cases g2; exact ⟨a, dx, [], rfl, by simpa using hH, Nat.zero_le _, hFa, .nil⟩
            | succ j =>
              simp only [List.getElem?_cons_succ] at g1 g2
              rw [List.getElem?_map] at g1
              cases ed : ds[j]? with
              | none => rw [ed] at g1; cases g1
              | some d =>
                rw [ed] at g1; cases g1
                obtain ⟨y, hy, ry⟩ := h2.get ed
                rw [g2] at hy; cases hy
                exact ⟨x, rfl, ry⟩
          · cases j with
            | zero =>
              cases g1
              refine .inr ⟨rfl, c, [], a, rfl, rfl, nin, fun b hb => ?_, fun b hb => ?_⟩
              · rw [List.mem_singleton.mp hb]; exact .inl rfl
              · rw [List.mem_singleton.mp hb]
            | succ j =>
              simp only [List.getElem?_cons_succ] at g1
              rw [List.getElem?_map] at g1
              cases ed : ds[j]? with
              | none => rw [ed] at g1; cases g1
              | some d => rw [ed] at g1; cases g1; exact .inl ⟨d, rfl⟩
end
end Mi

set_option Elab.async false
set_option linter.all false
set_option maxRecDepth 100000
set_option maxHeartbeats 8000000
/-! Mi, part 27: a law's text as a table; its facts by one test. -/
namespace Mi
open PySem PySem.Spec PyProof.Rows L2
/-- a def of the table -/
structure Dd where
  d : He.DefD
  f : Fd
  N : List Str
  ps : List Str
  ars : List Nat
  glob : Bool
/-- a class of the table -/
structure Dc where
  name : Str
  cl : Cl
  cars : List Nat
structure Ld where
  defs : List Dd
  clss : List Dc
  cons : List (Str × D)
  atts : List Str
  mths : List (Str × List Nat)
  gcd : Bool
def pgOf (L : Ld) : Pg := ⟨fun i => (L.defs[i]?).map (·.f), fun c => (L.clss[c]?).map (·.cl), fun k => (L.cons[k]?).map (·.2)⟩
def mtOf (L : Ld) : Mt where
  fnm := fun i => (L.defs[i]?).bind fun d => if d.glob = true then some d.d.at_.1 else none
  far := fun i k => (L.defs[i]?).any fun d => d.glob && d.ars.contains k
  cnm := fun c => (L.clss[c]?).map (·.name)
  car := fun c k => (L.clss[c]?).any fun d => d.cars.contains k
  mnm := fun i => (L.mths[i]?).map (·.1)
  mar := fun i k => (L.mths[i]?).any fun m => m.2.contains k
  anm := fun f => (L.atts[f]?).getD "?"
  na := L.atts.length
  knm := fun k => (L.cons[k]?).map (·.1)
  gcd := L.gcd
def arOf (L : Ld) (i k : Nat) : Bool := (L.defs[i]?).any fun d => d.ars.contains k
def adrOf (L : Ld) (K : PySem.W.Frag) (i : Nat) : Addr := match L.defs[i]? with
  | some d => He.fAd K d.d.at_
  | none => 0
def caOf (L : Ld) (K : PySem.W.Frag) (c : Nat) : Addr := match L.clss[c]? with
  | some d => He.ga K d.name
  | none => 0
def cnOf (L : Ld) (c : Nat) : List Str := match L.clss[c]? with
  | some d => d.cl.at_.map (mtOf L).anm
  | none => []
def ziOf (L : Ld) (K : PySem.W.Frag) : Ci := ⟨K, caOf L K, cnOf L⟩
def fxD (K : PySem.W.Frag) (d : Dd) : Fx := ⟨d.d.name, d.d.qual, d.d.params, d.d.body, d.d.scope, d.N, d.ps, d.d.dvs K⟩
def fxOf (L : Ld) (K : PySem.W.Frag) (i : Nat) : Fx := match L.defs[i]? with
  | some d => fxD K d
  | none => ⟨"", "", default, [], default, [], [], []⟩
def allIx {α : Type} (p : Nat → α → Bool) : Nat → List α → Bool
  | _, [] => true
  | i, a :: l => p i a && allIx p (i + 1) l
theorem allIx_ok {α : Type} {p : Nat → α → Bool} : ∀ {l : List α} {i j : Nat} {a : α}, allIx p i l = true → l[j]? = some a → p (i + j) a = true
  | [], i, j, a, _, h => by simp at h
  | b :: l, i, 0, a, h, e => by
    simp only [allIx, Bool.and_eq_true] at h
    simp at e; subst e
    exact h.1
  | b :: l, i, j + 1, a, h, e => by
    simp only [allIx, Bool.and_eq_true] at h
    have := allIx_ok (j := j) h.2 (by simpa using e)
    rwa [Nat.add_assoc, Nat.add_comm 1 j] at this
theorem allIx0 {α : Type} {p : Nat → α → Bool} {l : List α} {j : Nat} {a : α} (h : allIx p 0 l = true) (e : l[j]? = some a) : p j a = true := by
  have := allIx_ok h e
  rwa [Nat.zero_add] at this
def allBi : List Bi := [.add, .sub, .mul, .fdiv, .mod, .pow, .band, .bor, .bxor, .shl, .shr]
theorem mem_allBi (o : Bi) : o ∈ allBi := by cases o <;> simp [allBi]
/-! ### what stands in the text -/
def scB (N P : List Str) (sc : Scope) : Bool := (match sc.kind with
  | .function => true
  | _ => false) && !sc.isCoroutine && !sc.isGenerator && decide N.Nodup && decide (N.take P.length = P) && (P.all fun x => match sc.names.lookup x with
  | some .local => true
  | some .cell => true
  | _ => false) && sc.names.all fun y => match y.2 with
  | .free => false
  | _ => true
theorem scB_ok {N P : List Str} {sc : Scope} (h : scB N P sc = true) : FnScope N P sc := by
  simp only [scB, Bool.and_eq_true, decide_eq_true_eq, Bool.not_eq_true', List.all_eq_true] at h
  obtain ⟨⟨⟨⟨⟨⟨h1, h2⟩, h3⟩, h4⟩, h5⟩, h6⟩, h7⟩ := h
  refine ⟨?_, h2, h3, h4, h5, fun x hx => ?_, fun y hy e => ?_⟩
  · split at h1
    · assumption
    · cases h1
  · have q := h6 x hx
    split at q
    · rename_i e; exact .inl e
    · rename_i e; exact .inr e
    · cases q
  · have q := h7 y hy
    rw [e] at q; cases q
/-- a def that a call can meet: no __init__, k arguments -/
def okD (L : Ld) (f k : Nat) : Bool := (L.defs[f]?).any fun d => d.f.ini.isNone && d.ars.contains k
theorem okD_ok {L : Ld} {f k : Nat} (h : okD L f k = true) : ∃ d, (pgOf L).fns f = some d ∧ d.ini = none ∧ arOf L f k = true := by
  unfold okD at h
  cases e : L.defs[f]? with
  | none => rw [e] at h; cases h
  | some d =>
    rw [e] at h
    simp only [Option.any_some, Bool.and_eq_true] at h
    refine ⟨d.f, by show (L.defs[f]?).map _ = _; rw [e]; rfl, Option.isNone_iff_eq_none.mp h.1, ?_⟩
    unfold arOf
    rw [e]
    exact h.2
def stD (L : Ld) (d : Dd) : Bool := scB d.N d.ps d.d.scope && decide (d.f.np = d.ps.length) && decide (d.f.ns = d.N.length) && mSs (mtOf L) ⟨d.N, d.d.scope, fun _ => true⟩ d.f.body d.d.body && d.d.kwd.isEmpty &&
  (!d.glob || (d.f.ini.isNone && d.d.at_.2.isNone)) && (match d.f.ini with
    | none => true
    | some _ => !d.ps.isEmpty)
def stC (L : Ld) (c : Nat) (d : Dc) : Bool := decide d.cl.at_.Nodup && d.cl.at_.all (fun f => decide (f < L.atts.length)) && (d.cars.isEmpty || (L.defs[d.cl.init]?).any fun e => decide (e.f.ini = some c) && d.cars.all fun k => e.ars.contains (k + 1)) &&
  (allBi.all fun o => (match d.cl.op o with
    | some f => okD L f 2
    | none => true) && (match d.cl.rop o with
    | some f => okD L f 2 && (match o with
      | .add => true
      | .sub => true
      | .mul => true
      | _ => false)
    | none => true)) && (match d.cl.neg with
    | some f => okD L f 1
    | none => true) && allIx (fun i m => match d.cl.mth i with
    | some f => m.2.all fun k => okD L f (k + 1)
    | none => true) 0 L.mths
def stL (L : Ld) : Bool := L.defs.all (stD L) && allIx (stC L) 0 L.clss && decide L.atts.Nodup && allIx (fun i (m : Str × List Nat) => L.clss.any fun d => (d.cl.mth i).isSome) 0 L.mths
/-! ### what K tells -/
def eqA (K : PySem.W.Frag) (C : Addr) (x : Str) (a : Addr) : Bool := He.eqO (PySem.W.findIn K (.ref C) x) (some (some (.ref a)))
/-- the value u is worth d -/
def repU (K : PySem.W.Frag) : Nat → D → Value → Bool
  | 0, _, _ => false
  | n + 1, d, u => match d, u with
    | .non, .none => true
    | .bl b, .bool c => b == c
    | .int i, .int j _ => decide (i = j)
    | .str s, .str x _ => decide (x = toS s)
    | .tup l, .ref a => (match K.lookup a with
      | some ⟨.type t, none, .seq its _, _⟩ => t == "tuple" && decide (its.size ≤ 1000) && decide (l.length = its.toList.length) && (l.zip its.toList).all fun p => repU K n p.1 p.2
      | _ => false)
    | _, _ => false
def vOf : Value → V
  | .none => .non
  | .bool b => .bl b
  | .int i _ => .int i
  | .str x _ => .str x
  | .ref a => .ref a
  | _ => .non
theorem repU_ok {K : PySem.W.Frag} {Z : Ci} (hZ : Z.K = K) : ∀ {n : Nat} {d : D} {u : Value}, repU K n d u = true → RelV (vOf u) u ∧ ∀ F ρ, Rep Z F ρ d (vOf u)
  | n + 1, d, u, h => by
    unfold repU at h
    split at h
    · exact ⟨rfl, fun _ _ => .non⟩
    · have := eq_of_beq h; subst this; exact ⟨rfl, fun _ _ => .bl⟩
    · have := of_decide_eq_true h; subst this; exact ⟨⟨_, rfl⟩, fun _ _ => .int⟩
    · have := of_decide_eq_true h; subst this; exact ⟨⟨_, rfl⟩, fun _ _ => .str⟩
    · rename_i l a
      split at h
      · rename_i t its k sl e
        simp only [Bool.and_eq_true, beq_iff_eq, decide_eq_true_eq, List.all_eq_true] at h
        obtain ⟨⟨⟨rfl, h2⟩, h3⟩, h4⟩ := h
        have key : ∀ (l : List D) (its : List Value), l.length = its.length → (∀ p ∈ l.zip its, repU K n p.1 p.2 = true) → Vals (its.map vOf) its ∧ ∀ F ρ, Reps Z F ρ l (its.map vOf) := by
          intro l
          induction l with
          | nil => intro its hl _; cases its with
            | nil => exact ⟨.nil, fun _ _ => .nil⟩
            | cons _ _ => cases hl
          | cons d l ih => intro its hl hp; cases its with
            | nil => cases hl
            | cons u its =>
              obtain ⟨g1, g2⟩ := repU_ok hZ (hp (d, u) (by simp))
              obtain ⟨g3, g4⟩ := ih its (by simpa using hl) fun p hp' => hp p (by simp [hp'])
              exact ⟨.cons g1 g3, fun F ρ => .cons (g2 F ρ) (g4 F ρ)⟩
        obtain ⟨g1, g2⟩ := key l its.toList h3 h4
        refine ⟨rfl, fun F ρ => .tup (vs := its.toList.map vOf) (.inr ⟨_, its, k, by rw [hZ]; exact e, rfl, rfl, ?_, g1⟩) (g2 F ρ)⟩
        rw [sizeLine_eq]; omega
      · cases h
    · cases h
/-- a default's value -/
def repV (K : PySem.W.Frag) (d : D) (v : V) : Bool := match d, v with
  | .non, .non => true
  | .bl b, .bl c => b == c
  | .int i, .int j => decide (i = j)
  | .str s, .str x => decide (x = toS s)
  | .tup l, .ref a => repU K 5 (.tup l) (.ref a)
  | _, _ => false
theorem repV_ok {K : PySem.W.Frag} {Z : Ci} (hZ : Z.K = K) {d : D} {v : V} (h : repV K d v = true) : ∀ F ρ, Rep Z F ρ d v := by
  unfold repV at h
  split at h
  · exact fun _ _ => .non
  · have := eq_of_beq h; subst this; exact fun _ _ => .bl
  · have := of_decide_eq_true h; subst this; exact fun _ _ => .int
  · have := of_decide_eq_true h; subst this; exact fun _ _ => .str
  · exact (repU_ok hZ h).2
  · cases h
def repVs (K : PySem.W.Frag) : List D → List V → Bool
  | [], [] => true
  | d :: ds, v :: vs => repV K d v && repVs K ds vs
  | _, _ => false
theorem repVs_ok {K : PySem.W.Frag} {Z : Ci} (hZ : Z.K = K) : ∀ {ds : List D} {vs : List V}, repVs K ds vs = true → ∀ F ρ, Reps Z F ρ ds vs
  | [], [], _ => fun _ _ => .nil
  | d :: ds, v :: vs, h => by
    simp only [repVs, Bool.and_eq_true] at h
    exact fun F ρ => .cons (repV_ok hZ h.1 F ρ) (repVs_ok hZ h.2 F ρ)
  | [], _ :: _, h => by cases h
  | _ :: _, [], h => by cases h
def revB (K : PySem.W.Frag) (C : Addr) (x : Str) : Bool := match PySem.W.findIn K (.ref C) x with
  | some none => true
  | some (some (.ref _)) => true
  | _ => false
def ckD (L : Ld) (K : PySem.W.Frag) (d : Dd) : Bool := repVs K d.f.dfl (d.d.dvs K) && (!d.glob || He.eqO (PySem.W.nsIn K mainGlobals d.d.at_.1) (some (some (.ref (He.fAd K d.d.at_)))))
def kinds (L : Ld) : List D := [.non, .bl true, .int 0, .str [], .lst [], .tup [], .dr 0] ++ (List.range L.clss.length).map fun c => .ins c []
def tgts (L : Ld) : List Ty := [.int, .bool, .str, .list, .tuple, .dict] ++ (List.range L.clss.length).map .cls
def ckC (L : Ld) (K : PySem.W.Frag) (c : Nat) (d : Dc) : Bool :=
  let C := He.ga K d.name
  He.eqO (PySem.W.nsIn K mainGlobals d.name) (some (some (.ref C))) && (He.Fa.cls d.name).ok K && (d.cl.at_.all fun f => He.eqO (PySem.W.findIn K (.ref C) ((mtOf L).anm f)) (some none)) &&
  (d.cars.isEmpty || (PySem.W.makesIn K C && eqA K C "__init__" (adrOf L K d.cl.init) && PySem.W.isFn K (.ref (adrOf L K d.cl.init)) && PySem.W.keepIn K (.ref C))) && PySem.W.selfFirst K C && decide (PySem.W.subIn K (.type "int") (.ref C) = some false) && decide (PySem.W.subIn K (.ref C) (.type "int") = some false) &&
  (allBi.all fun o => (match d.cl.op o with
    | some f => eqA K C (PySem.dunder (opN o)) (adrOf L K f) && PySem.W.isFn K (.ref (adrOf L K f)) && revB K C (dunderR (opN o)) && allIx (fun e d' => match d'.cl.op o with
      | some _ => decide (C = He.ga K d'.name) || decide (PySem.W.subIn K (.ref (He.ga K d'.name)) (.ref C) = some false)
      | none => true) 0 L.clss
    | none => true) && (match d.cl.rop o with
    | some f => eqA K C (dunderR (opN o)) (adrOf L K f) && PySem.W.isFn K (.ref (adrOf L K f)) && (match PySem.W.findIn K (.ref C) (PySem.dunder (opN o)) with
      | some (some (.ref _)) => true
      | _ => false)
    | none => true)) && (match d.cl.neg with
    | some f => eqA K C "__neg__" (adrOf L K f) && PySem.W.isFn K (.ref (adrOf L K f))
    | none => true) && (allIx (fun i (m : Str × List Nat) => match d.cl.mth i with
    | some f => eqA K C m.1 (adrOf L K f) && PySem.W.isFn K (.ref (adrOf L K f)) && PySem.W.keepIn K (.ref (adrOf L K f)) && decide (m.1 ∉ cnOf L c)
    | none => true) 0 L.mths) && He.eqO (PySem.W.findIn K (.ref C) "__class__") (some (some (.builtin "object.__class__"))) && decide (PySem.W.mroIn K C (.type "object") = some true)
def ckB (L : Ld) (K : PySem.W.Frag) : Bool := (K.all fun p => !(p.2.cls == .type "list")) && L.defs.all (ckD L K) && allIx (ckC L K) 0 L.clss && (L.cons.all fun p => match PySem.W.nsIn K mainGlobals p.1 with
    | some (some u) => repU K 6 p.2 u
    | _ => false) && (blts.all fun x => He.eqO (PySem.W.nsIn K mainGlobals x) (some none)) && (!L.gcd || He.eqO (PySem.W.nsIn K mainGlobals "gcd") (some (some (.builtin "math.gcd")))) &&
  (allBi.all fun o => (PySem.W.findIn K (.type "int") (PySem.dunder (opN o))).isSome && (PySem.W.findIn K (.type "int") (dunderR (opN o))).isSome) &&
  ((kinds L).all fun d => (tgts L).all fun t => decide (PySem.W.kitOne K (tyVal (ziOf L K) d) (tyTgt (ziOf L K) t) = some (tyIs t d))) &&
  He.eqO (PySem.W.specialIn K (.builtin "object.__class__") "__get__") (some (some (.builtin "getset_descriptor.__get__"))) && decide (PySem.W.takesIn K (.builtin "object.__class__") = some true)

section
variable {L : Ld} {K : PySem.W.Frag} {h : Heap} {mg : Str → Option Value}
theorem fns_at {i : Nat} {f : Fd} (h : (pgOf L).fns i = some f) : ∃ d, L.defs[i]? = some d ∧ d.f = f := by
  have h : (L.defs[i]?).map (·.f) = some f := h
  cases e : L.defs[i]? with
  | none => rw [e] at h; cases h
  | some d => rw [e] at h; cases h; exact ⟨d, rfl, rfl⟩
theorem cls_at {c : Nat} {cl : Cl} (h : (pgOf L).cls c = some cl) : ∃ d, L.clss[c]? = some d ∧ d.cl = cl := by
  have h : (L.clss[c]?).map (·.cl) = some cl := h
  cases e : L.clss[c]? with
  | none => rw [e] at h; cases h
  | some d => rw [e] at h; cases h; exact ⟨d, rfl, rfl⟩
theorem ca_at {c : Nat} {d : Dc} (h : L.clss[c]? = some d) : caOf L K c = He.ga K d.name := by unfold caOf; rw [h]
theorem cn_at {c : Nat} {d : Dc} (h : L.clss[c]? = some d) : cnOf L c = d.cl.at_.map (mtOf L).anm := by unfold cnOf; rw [h]
theorem fx_at {i : Nat} {d : Dd} (h : L.defs[i]? = some d) : fxOf L K i = fxD K d := by unfold fxOf; rw [h]
theorem adr_at {i : Nat} {d : Dd} (h : L.defs[i]? = some d) : adrOf L K i = He.fAd K d.d.at_ := by unfold adrOf; rw [h]
theorem eqA_ok {C : Addr} {x : Str} {a : Addr} (h : eqA K C x a = true) : PySem.W.findIn K (.ref C) x = some (some (.ref a)) := He.eqO_ok h
/-- how the defs' parameters are bound -/
def BndOk (L : Ld) : Prop := ∀ (i : Nat) (d : Dd), L.defs[i]? = some d → ∀ (K : PySem.W.Frag) (a : Addr) (fd : FuncData), FunD K d.d.name d.d.qual d.d.params d.d.body d.d.scope (d.d.dvs K) [] a fd → ∀ k, d.ars.contains k = true → k ≤ d.ps.length ∧ d.ps.length ≤ k + (d.d.dvs K).length ∧ ∃ ds, Vals ((d.d.dvs K).drop ((d.d.dvs K).length - (d.ps.length - k))) ds ∧ Binds K fd d.ps ds
theorem revB_ok {C : Addr} {x : Str} (h : revB K C x = true) : ∃ rc, PySem.W.findIn K (.ref C) x = some rc ∧ (rc = none ∨ ∃ g : Addr, rc = some (.ref g)) := by
  unfold revB at h
  split at h
  · rename_i e; exact ⟨none, e, .inl rfl⟩
  · rename_i g e; exact ⟨_, e, .inr ⟨g, rfl⟩⟩
  · cases h
theorem anm_inj (h : L.atts.Nodup) {f g : Nat} (hf : f < L.atts.length) (hg : g < L.atts.length) (e : (mtOf L).anm g = (mtOf L).anm f) : g = f := by
  have e : (L.atts[g]?).getD "?" = (L.atts[f]?).getD "?" := e
  rw [List.getElem?_eq_getElem hf, List.getElem?_eq_getElem hg] at e
  exact (List.getElem_inj h).mp e
theorem any_at {α : Type} {o : Option α} {p : α → Bool} (h : o.any p = true) : ∃ a, o = some a ∧ p a = true := by
  cases o with
  | none => cases h
  | some a => exact ⟨a, rfl, h⟩
theorem lf_of {fa : List He.Fa} {fn : List He.DefD} (X : K.In h) (G : h.Ns mainGlobals mg) (s : stL L = true) (c : ckB L K = true) (hfn : fn = L.defs.map (·.d)) (S : He.SaysD fa fn K) (hb : BndOk L) :
    LF K mg (ziOf L K) (mtOf L) (pgOf L) (adrOf L K) (fxOf L K) (arOf L) := by
  subst hfn
  simp only [stL, Bool.and_eq_true, List.all_eq_true, decide_eq_true_eq] at s
  obtain ⟨⟨⟨s1, s2⟩, s3⟩, s4⟩ := s
  simp only [ckB, Bool.and_eq_true, List.all_eq_true, decide_eq_true_eq] at c
  obtain ⟨⟨⟨⟨⟨⟨⟨⟨⟨c0, c1⟩, c2⟩, c3⟩, c4⟩, c5⟩, c6⟩, c7⟩, c8⟩, c9⟩ := c
  have defm : ∀ {i : Nat} {d : Dd}, L.defs[i]? = some d → d ∈ L.defs := fun e => List.mem_of_getElem? e
  have sd : ∀ {i : Nat} {d : Dd}, L.defs[i]? = some d → stD L d = true := fun e => s1 _ (defm e)
  have sc : ∀ {c : Nat} {d : Dc}, L.clss[c]? = some d → stC L c d = true := fun e => allIx0 s2 e
  have kd : ∀ {i : Nat} {d : Dd}, L.defs[i]? = some d → ckD L K d = true := fun e => c1 _ (defm e)
  have kc : ∀ {c : Nat} {d : Dc}, L.clss[c]? = some d → ckC L K c d = true := fun e => allIx0 c2 e
  refine ⟨rfl, fun i f hf => ?_, fun f x k h1 h2 => ?_, fun c x h1 => ?_, fun c k h1 => ?_, fun i y k h1 h2 => ?_, fun i x h1 => ?_, fun x hx => PySem.W.mg_none_of X G (He.eqO_ok (c4 x hx)), fun g => ?_, fun c cl h1 => ?_, fun o c cl f h1 h2 => ?_, fun o c k f d k' f' h1 h2 h3 h4 h5 => ?_, fun o c cl f h1 h2 => ?_, fun o h1 => ?_, fun o => ?_, fun c cl f h1 h2 => ?_, fun d t h1 h2 => ?_, fun c h1 => ?_, ⟨He.eqO_ok c8, c9⟩⟩
  · -- a def
    obtain ⟨d, hd, rfl⟩ := fns_at hf
    have q := sd hd
    simp only [stD, Bool.and_eq_true, decide_eq_true_eq] at q
    obtain ⟨⟨⟨⟨⟨⟨q1, q2⟩, q3⟩, q4⟩, q5⟩, q6⟩, q7⟩ := q
    have k := kd hd
    simp only [ckD, Bool.and_eq_true] at k
    rw [fx_at hd, adr_at hd]
    obtain ⟨fd, hfd⟩ := S.def_ i (d := d.d) (by rw [List.getElem?_map, hd]; rfl)
    have hkw : d.d.kws K = [] := by unfold He.DefD.kws; rw [List.isEmpty_iff.mp q5]; rfl
    rw [hkw] at hfd
    refine ⟨⟨fd, hfd, fun k hk => ?_⟩, scB_ok q1, q2, q3, repVs_ok rfl k.1, q4, fun c hc => ?_⟩
    · refine hb i d hd K _ fd hfd k ?_
      unfold arOf at hk
      rw [hd] at hk
      exact hk
    · rw [hc] at q7
      show ∃ y r, d.ps = y :: r
      cases e : d.ps with
      | nil => rw [e] at q7; cases q7
      | cons y r => exact ⟨y, r, rfl⟩
  · -- a call
    have h1 : (L.defs[f]?).bind (fun d => if d.glob = true then some d.d.at_.1 else none) = some x := h1
    obtain ⟨d, hd, h2⟩ := any_at h2
    rw [hd] at h1
    simp only [Option.bind_some] at h1
    have q := sd hd
    simp only [stD, Bool.and_eq_true, decide_eq_true_eq] at q
    obtain ⟨⟨⟨⟨⟨⟨q1, q2⟩, q3⟩, q4⟩, q5⟩, q6⟩, q7⟩ := q
    have k := kd hd
    simp only [ckD, Bool.and_eq_true] at k
    rw [Bool.and_eq_true] at h2
    obtain ⟨h2, h3⟩ := h2
    rw [if_pos h2] at h1
    cases h1
    simp only [h2, Bool.not_true, Bool.false_or, Bool.and_eq_true] at q6 k
    refine ⟨by rw [adr_at hd]; exact PySem.W.mg_of X G (He.eqO_ok k.2), d.f, by show (L.defs[f]?).map _ = _; rw [hd]; rfl, Option.isNone_iff_eq_none.mp q6.1, ?_⟩
    unfold arOf
    rw [hd]
    exact h3
  · -- a class's name
    have h1 : (L.clss[c]?).map (·.name) = some x := h1
    cases hd : L.clss[c]? with
    | none => rw [hd] at h1; cases h1
    | some d =>
      rw [hd] at h1; cases h1
      have k := kc hd
      simp only [ckC, Bool.and_eq_true] at k
      show mg d.name = some (.ref (caOf L K c))
      rw [ca_at hd]
      exact PySem.W.mg_of X G (He.eqO_ok k.1.1.1.1.1.1.1.1.1.1.1)
  · -- a class called
    obtain ⟨d, hd, h1⟩ := any_at h1
    have q := sc hd
    simp only [stC, Bool.and_eq_true] at q
    have kk := kc hd
    simp only [ckC, Bool.and_eq_true] at kk
    have ne : d.cars.isEmpty = false := by
      cases e : d.cars with
      | nil => rw [e] at h1; cases h1
      | cons _ _ => rfl
    have q1 := q.1.1.1.2
    rw [ne, Bool.false_or] at q1
    obtain ⟨e, he, q1⟩ := any_at q1
    simp only [Bool.and_eq_true, decide_eq_true_eq, List.all_eq_true] at q1
    have k1 := kk.1.1.1.1.1.1.1.1.2
    rw [ne, Bool.false_or] at k1
    simp only [Bool.and_eq_true] at k1
    refine ⟨d.cl, e.f, by show (L.clss[c]?).map _ = _; rw [hd]; rfl, by show (L.defs[d.cl.init]?).map _ = _; rw [he]; rfl, q1.1, ?_, ?_⟩
    · show Mk K (caOf L K c) _
      rw [ca_at hd]
      exact ⟨k1.1.1.1, eqA_ok k1.1.1.2, k1.1.2, k1.2⟩
    · unfold arOf
      rw [he]
      exact q1.2 k (by simpa using h1)
  · -- a method
    have h1 : (L.mths[i]?).map (·.1) = some y := h1
    obtain ⟨m, hm, h2⟩ := any_at h2
    rw [hm] at h1; cases h1
    refine ⟨?_, fun c cl f h3 h4 => ?_⟩
    · have q := allIx0 s4 hm
      simp only [List.any_eq_true] at q
      obtain ⟨d, hd, q⟩ := q
      obtain ⟨c, hc⟩ := List.mem_iff_getElem?.mp hd
      obtain ⟨f, hf⟩ := Option.isSome_iff_exists.mp q
      exact ⟨c, d.cl, f, by show (L.clss[c]?).map _ = _; rw [hc]; rfl, hf⟩
    · obtain ⟨d, hd, rfl⟩ := cls_at h3
      have q := sc hd
      simp only [stC, Bool.and_eq_true] at q
      have kk := kc hd
      simp only [ckC, Bool.and_eq_true] at kk
      have q1 := allIx0 q.2 hm
      have k1 := allIx0 kk.1.1.2 hm
      simp only [h4, List.all_eq_true, Bool.and_eq_true, decide_eq_true_eq] at q1 k1
      refine ⟨?_, ?_, fun z hz e => ?_, okD_ok (q1 k (by simpa using h2))⟩
      · show Cls K (caOf L K c)
        rw [ca_at hd]
        exact He.cls_ok kk.1.1.1.1.1.1.1.1.1.1.2
      · show Meth K (caOf L K c) _ _
        rw [ca_at hd]
        exact ⟨eqA_ok k1.1.1.1, k1.1.1.2, k1.1.2⟩
      · subst e; exact k1.2 hz
  · -- a constant
    have h1 : (L.cons[i]?).map (·.1) = some x := h1
    cases hp : L.cons[i]? with
    | none => rw [hp] at h1; cases h1
    | some p =>
      rw [hp] at h1; cases h1
      have q := c3 p (List.mem_of_getElem? hp)
      split at q
      · rename_i u e
        obtain ⟨g1, g2⟩ := repU_ok (Z := ziOf L K) rfl q
        exact ⟨p.2, vOf u, u, by show (L.cons[i]?).map _ = _; rw [hp]; rfl, PySem.W.mg_of X G e, g1, g2⟩
      · cases q
  · have g : L.gcd = true := g
    rw [g, Bool.not_true, Bool.false_or] at c5
    exact PySem.W.mg_of X G (He.eqO_ok c5)
  · -- a class's fields
    obtain ⟨d, hd, rfl⟩ := cls_at h1
    have q := sc hd
    simp only [stC, Bool.and_eq_true, decide_eq_true_eq, List.all_eq_true] at q
    have k := kc hd
    simp only [ckC, Bool.and_eq_true, List.all_eq_true] at k
    refine ⟨cn_at hd, fun f g hf hg e => anm_inj s3 hf (q.1.1.1.1.2 g hg) e, ?_, fun f hf => ?_, q.1.1.1.1.1, q.1.1.1.1.2⟩
    · show Cls K (caOf L K c)
      rw [ca_at hd]
      exact He.cls_ok k.1.1.1.1.1.1.1.1.1.1.2
    · show NoAttr K (caOf L K c) _
      rw [ca_at hd]
      exact He.eqO_ok (k.1.1.1.1.1.1.1.1.1.2 f hf)
  · -- an operator
    obtain ⟨d, hd, rfl⟩ := cls_at h1
    have q := sc hd
    simp only [stC, Bool.and_eq_true, List.all_eq_true] at q
    have k := kc hd
    simp only [ckC, Bool.and_eq_true, List.all_eq_true, decide_eq_true_eq] at k
    have q1 := (q.1.1.2 o (mem_allBi o)).1
    have k1 := (k.1.1.1.1.2 o (mem_allBi o)).1
    simp only [h2, Bool.and_eq_true] at q1 k1
    show PySem.W.selfFirst K (caOf L K c) = true ∧ OpD K (caOf L K c) _ _ ∧ PySem.W.subIn K _ (.ref (caOf L K c)) = _ ∧ _
    rw [ca_at hd]
    exact ⟨k.1.1.1.1.1.1.1.2, ⟨eqA_ok k1.1.1.1, k1.1.1.2, revB_ok k1.1.2⟩, k.1.1.1.1.1.1.2, okD_ok q1⟩
  · obtain ⟨e, he, rfl⟩ := cls_at h1
    obtain ⟨e', he', rfl⟩ := cls_at h3
    have k := kc he
    simp only [ckC, Bool.and_eq_true, List.all_eq_true, decide_eq_true_eq] at k
    have k1 := (k.1.1.1.1.2 o (mem_allBi o)).1
    simp only [h2, Bool.and_eq_true] at k1
    have k2 := allIx0 k1.2 he'
    simp only [h4, Bool.or_eq_true, decide_eq_true_eq] at k2
    have h5 : caOf L K c ≠ caOf L K d := h5
    show PySem.W.subIn K (.ref (caOf L K d)) (.ref (caOf L K c)) = some false
    rw [ca_at he, ca_at he'] at h5 ⊢
    exact k2.resolve_left h5
  · obtain ⟨d, hd, rfl⟩ := cls_at h1
    have q := sc hd
    simp only [stC, Bool.and_eq_true, List.all_eq_true] at q
    have k := kc hd
    simp only [ckC, Bool.and_eq_true, List.all_eq_true, decide_eq_true_eq] at k
    have q1 := (q.1.1.2 o (mem_allBi o)).2
    have k1 := (k.1.1.1.1.2 o (mem_allBi o)).2
    simp only [h2, Bool.and_eq_true] at q1 k1
    show PySem.W.selfFirst K (caOf L K c) = true ∧ (∃ b, PySem.W.findIn K (.ref (caOf L K c)) _ = _ ∧ _ ∧ PySem.W.findIn K (.ref (caOf L K c)) _ = _) ∧ PySem.W.subIn K (.ref (caOf L K c)) _ = _ ∧ _
    rw [ca_at hd]
    obtain ⟨k2, k3⟩ := k1
    split at k3
    · rename_i b e
      exact ⟨k.1.1.1.1.1.1.1.2, ⟨b, eqA_ok k2.1, k2.2, e⟩, k.1.1.1.1.1.2, okD_ok q1.1⟩
    · cases k3
  · obtain ⟨c, cl, f, h1, h2⟩ := h1
    obtain ⟨d, hd, rfl⟩ := cls_at h1
    have q := sc hd
    simp only [stC, Bool.and_eq_true, List.all_eq_true] at q
    have q1 := (q.1.1.2 o (mem_allBi o)).2
    simp only [h2, Bool.and_eq_true] at q1
    cases o <;> first | exact intOp_add | exact intOp_sub | exact intOp_mul | cases q1.2
  · have q := c6 o (mem_allBi o)
    obtain ⟨a, ha⟩ := Option.isSome_iff_exists.mp q.1
    obtain ⟨b, hb'⟩ := Option.isSome_iff_exists.mp q.2
    exact ⟨a, b, ha, hb'⟩
  · obtain ⟨d, hd, rfl⟩ := cls_at h1
    have q := sc hd
    simp only [stC, Bool.and_eq_true, List.all_eq_true] at q
    have k := kc hd
    simp only [ckC, Bool.and_eq_true, List.all_eq_true, decide_eq_true_eq] at k
    have q1 := q.1.2
    have k1 := k.1.1.1.2
    simp only [h2, Bool.and_eq_true] at q1 k1
    show PySem.W.findIn K (.ref (caOf L K c)) _ = _ ∧ _
    rw [ca_at hd]
    exact ⟨eqA_ok k1.1, k1.2, okD_ok q1⟩
  · -- isinstance
    have ht : t ∈ tgts L := by
      unfold tgts
      cases t with
      | cls c =>
        obtain ⟨cl, hcl⟩ := Option.isSome_iff_exists.mp h2
        obtain ⟨d', hd', _⟩ := cls_at hcl
        exact List.mem_append_right _ (List.mem_map.mpr ⟨c, List.mem_range.mpr (List.getElem?_eq_some_iff.mp hd').1, rfl⟩)
      | _ => simp
    have key : ∀ d0 ∈ kinds L, tyVal (ziOf L K) d0 = tyVal (ziOf L K) d → tyIs t d0 = tyIs t d → PySem.W.kitOne K (tyVal (ziOf L K) d) (tyTgt (ziOf L K) t) = some (tyIs t d) := fun d0 hd0 e1 e2 => by
      rw [← e1, ← e2]; exact c7 d0 hd0 t ht
    cases d with
    | non => exact key .non (by simp [kinds]) rfl rfl
    | bl b => exact key (.bl true) (by simp [kinds]) rfl (by cases t <;> rfl)
    | int i => exact key (.int 0) (by simp [kinds]) rfl (by cases t <;> rfl)
    | str z => exact key (.str []) (by simp [kinds]) rfl (by cases t <;> rfl)
    | lst l => exact key (.lst []) (by simp [kinds]) rfl (by cases t <;> rfl)
    | tup l => exact key (.tup []) (by simp [kinds]) rfl (by cases t <;> rfl)
    | dr n => exact key (.dr 0) (by simp [kinds]) rfl (by cases t <;> rfl)
    | ins c fs =>
      obtain ⟨cl, hcl⟩ := Option.isSome_iff_exists.mp h1
      obtain ⟨d', hd', _⟩ := cls_at hcl
      refine key (.ins c []) ?_ rfl (by cases t <;> rfl)
      unfold kinds
      exact List.mem_append_right _ (List.mem_map.mpr ⟨c, List.mem_range.mpr (List.getElem?_eq_some_iff.mp hd').1, rfl⟩)
  · obtain ⟨cl, hcl⟩ := Option.isSome_iff_exists.mp h1
    obtain ⟨d, hd, _⟩ := cls_at hcl
    have k := kc hd
    simp only [ckC, Bool.and_eq_true, List.all_eq_true, decide_eq_true_eq] at k
    show PySem.W.findIn K (.ref (caOf L K c)) _ = _ ∧ PySem.W.mroIn K (caOf L K c) _ = _
    rw [ca_at hd]
    exact ⟨He.eqO_ok k.1.2, k.2⟩
end
end Mi

set_option Elab.async false
set_option linter.all false
set_option maxRecDepth 100000
set_option maxHeartbeats 8000000
/-! Mi, part 28: a law's end. -/
namespace Mi
open PySem PySem.Spec PyProof.Rows L2
theorem FunD.bindsF {K : PySem.W.Frag} {x qual : Str} {params : Arguments} {body : List Stmt} {scope : Scope} {dvs : List V} {kws : List (Str × V)} {f : Addr} {fd : FuncData} {ps : List Str} (F : FunD K x qual params body scope dvs kws f fd)
    (h : ∀ (dV kV doc pm : Value) (an : Option Addr) (cdv ct : Value) (us : List Value), us.length = ps.length → bindArgs (PySem.W.fnOf x qual params body scope dV kV doc pm an cdv ct) ⟨us, []⟩ = pure (ps.zip us)) : Binds K fd ps [] := by
  obtain ⟨oc, od, dV, kV, doc, pm, an, cdv, ct, osl, rfl, _⟩ := F.ex
  exact .all (h dV kV doc pm an cdv ct)
/-- the head's test: the defs as they stand, one test of the written part -/
def hookM (n : Nat) (fn : List He.DefD) (ck : PySem.W.Frag → Bool) : PySem.W.Hook where
  α := He.AlD × Bool
  obs := fun s => (He.obsDG n [] fn s.heap.get?, ck (He.frG s.heap.get? (He.asD s.heap.get? n)))
  val := fun _ => (He.valD fn, true)
  says := fun _ h => ∃ K : PySem.W.Frag, K.In h ∧ He.SaysD [] fn K ∧ ck K = true
  of := fun _ s e => ⟨He.frG s.heap.get? (He.asD s.heap.get? n), He.frG_in, congrArg Prod.fst e, congrArg Prod.snd e⟩
  keeps := fun _ _ _ ⟨K, hK, c⟩ k => ⟨K, PySem.W.Frag.In.keeps hK k, c⟩
def obM (n : Nat) (fn : List He.DefD) (ck : PySem.W.Frag → Bool) (g : Addr → Option Obj) : He.AlD × Bool := (He.obsDG n [] fn g, ck (He.frG g (He.asD g n)))
theorem obM_eq {n : Nat} {fn : List He.DefD} {ck : PySem.W.Frag → Bool} {g : Addr → Option Obj} {s : Shared} (h : ∀ a, g a = s.heap.get? a) : obM n fn ck g = (hookM n fn ck).obs s := by
  have e : g = s.heap.get? := funext h
  rw [e] <;> rfl
def CXA (P : Program) : CXT := fun outer H s E e s' => ∃ w, L2.CX P w outer H s E e s'
theorem FnOk.cxa {P : Program} {w : World} {K : PySem.W.Frag} {mg : Str → Option Value} {base : Heap} {k : Nat} {f : Addr} {fd : FuncData} {ps : List Str} {sp : Sp} (h : FnOk P w K mg base (L2.CX P w) k f fd ps sp) : FnOk P w K mg base (CXA P) k f fd ps sp := by
  refine ⟨h.len, fun A outer s H args us vs Q E hr he hb hv hs => codeAny_mono (h.run A outer s H args us vs Q E hr he hb hv hs) fun r s' q => ?_⟩
  match r, q with
  | .ok (.ret u), q => exact q
  | .ok .next, q => exact q.elim
  | .ok .brk, q => exact q.elim
  | .ok .cont, q => exact q.elim
  | .error e, q => exact ⟨w, q⟩
theorem mem_look {a : Addr} {o : Obj} : ∀ {K : PySem.W.Frag}, K.lookup a = some o → (a, o) ∈ K
  | [], h => by cases h
  | (b, u) :: K, h => by
    rw [List.lookup_cons] at h
    cases e : a == b with
    | true =>
      rw [e] at h
      have := Option.some.inj h
      subst this
      rw [beq_iff_eq.mp e]
      exact List.mem_cons_self
    | false => rw [e] at h; exact List.mem_cons_of_mem _ (mem_look h)
theorem ints_ok {Z : Ci} {F : Hp} {ρ : List Addr} : ∀ ns : List Int, Reps Z F ρ (ns.map D.int) (ns.map V.int)
  | [] => .nil
  | n :: ns => .cons .int (ints_ok ns)
theorem law_end {l : PySem.W.OpenLaw} {n : Nat} {q : Program} {loose : List Str} {XP : (Str → Option Value) → Heap → Prop} {YP : World → Heap → Prop} {d : DefRec} {x : Str} {L : Ld} {fuel N i0 : Nat} {d0 : Dd}
    (hn : l.most = some n) (hn2 : n ≤ sizeLine) (hdf : d.params.defaults = []) (hr : Room (lev N) callerA) (h0 : L.defs[i0]? = some d0) (hini : d0.f.ini = none) (hnp : d0.f.np = 1) (hps : d0.ps = [x]) (hgl : d0.glob = true) (hat : d0.d.at_.2 = none) (hnm : d.name = d0.d.at_.1)
    (hdfl : d0.d.dfl = []) (st : stL L = true) (hb : BndOk L) (hb1 : ∀ (K : PySem.W.Frag) (a : Addr) (fd : FuncData), FunD K d0.d.name d0.d.qual d0.d.params d0.d.body d0.d.scope [] [] a fd → ∀ (s : Shared) (u : Value), BindsTo s fd ⟨[u], []⟩ [(x, u)])
    (F : ∀ w h, YP w h → ∃ K : PySem.W.Frag, K.In h ∧ He.SaysD [] (L.defs.map (·.d)) K ∧ ckB L K = true)
    (law : ∀ ns : List Int, ns.length ≤ n → ∃ S, callN (pgOf L) fuel N i0 [.lst (ns.map .int)] [] = .ok (.bl true) S) :
    PySem.W.WalkO q loose XP YP l.row.toRowW d [] (fun f vs => PySem.call f vs) := by
  refine L2.walk_ofE (l := l) (n := n) (k := lev N) (x := x) (CX := CXA l.prog) hn hn2 hdf hr (fun w mg fa h Y G hmg => ?_) (fun H s e s' ⟨w, z⟩ => ?_)
  · obtain ⟨K, KX, S, c⟩ := F w h Y
    have LFx := lf_of KX G st c rfl S hb
    obtain ⟨fd, hfd⟩ := S.def_ i0 (d := d0.d) (by rw [List.getElem?_map, h0]; rfl)
    have q := (List.all_eq_true.mp (by simp only [stL, Bool.and_eq_true] at st; exact st.1.1.1)) d0 (List.mem_of_getElem? h0)
    simp only [stD, Bool.and_eq_true, decide_eq_true_eq] at q
    have hkw : d0.d.kws K = [] := by unfold He.DefD.kws; rw [List.isEmpty_iff.mp q.1.1.2]; rfl
    have hdv : d0.d.dvs K = [] := by unfold He.DefD.dvs; rw [hdfl]; rfl
    have c' := c
    simp only [ckB, Bool.and_eq_true, List.all_eq_true] at c'
    have k := c'.1.1.1.1.1.1.1.1.2 d0 (List.mem_of_getElem? h0)
    simp only [ckD, Bool.and_eq_true, hgl, Bool.not_true, Bool.false_or] at k
    have hfa : fa = He.fAd K d0.d.at_ := by
      have e1 := PySem.W.mg_of KX G (He.eqO_ok k.2)
      rw [hnm, e1] at hmg
      cases hmg; rfl
    subst hfa
    have hfd' : FunD K (fxOf L K i0).name (fxOf L K i0).qual (fxOf L K i0).params (fxOf L K i0).body (fxOf L K i0).scope (fxOf L K i0).dvs [] (adrOf L K i0) fd := by
      rw [fx_at h0, adr_at h0]
      rw [hkw] at hfd
      exact hfd
    refine ⟨K, fd, spF (ziOf L K) (callN (pgOf L) fuel N i0) 1, KX, hb1 K _ fd (by rw [hkw, hdv] at hfd; exact hfd), fun H a ns hl hO hS => ?_, fun base hin hns => ?_⟩
    · have hrd : Rd H a (.lst (ns.map V.int)) := by
        rcases hS with h | ⟨o, its, m, h1, h2, _⟩
        · exact h
        · exfalso
          have hm : (a, o) ∈ K := mem_look h1
          have := c'.1.1.1.1.1.1.1.1.1 (a, o) hm
          rw [h2] at this
          simp at this
      obtain ⟨S', hS'⟩ := law ns hl
      have hF : Rd (fun b => if b = a then H a else none) a (.lst (ns.map V.int)) := hrd.imp (fun e => (show (if a = a then H a else none) = _ by rw [if_pos rfl]; exact e)) fun ⟨o, e⟩ => ⟨o, (show (if a = a then H a else none) = _ by rw [if_pos rfl]; exact e)⟩
      refine ⟨rfl, fun b => if b = a then H a else none, [], [], [.lst (ns.map .int)], ⟨fun b u e => ?_, rfl, List.nodup_nil, fun k kv b e _ => by cases e⟩, .cons (.lst hF (ints_ok ns)) .nil, ?_⟩
      · have e : (if b = a then H a else none) = some u := e
        split at e
        · rename_i z; rw [z]; exact e
        · cases e
      · rw [hS']
        intro b F' ρ' H' e s p
        cases p
        rfl
    · have ok := fns_ok (prog := l.prog) (w := w) (base := base) (fuel := fuel) LFx N i0 d0.f (by show (L.defs[i0]?).map _ = _; rw [h0]; rfl) fd hfd'
      unfold spN at ok
      rw [hini, hnp, adr_at h0, fx_at h0] at ok
      have e : (fxD K d0).ps = [x] := hps
      rw [e] at ok
      exact FnOk.cxa ok
  · obtain ⟨a, B, H', cls, dd, _, _, _, _, _, _, _, z⟩ := z
    exact z
end Mi

set_option Elab.async false
set_option linter.all false
set_option maxRecDepth 100000
set_option maxHeartbeats 0
namespace Mi.Law
open PySem PySem.Spec PyProof.Rows L2
/-! the table of matchroots_k71_whole_mixed_lots -/
def top (i : Nat) : Stmt := PySem.Challenge.pw_matchroots_k71_whole_mixed_lots.main.body.getD i (.Pass ⟨0, 0, 0, 0⟩)
def dd0 : He.DefD := ⟨("law", none), "law", "law", defArgs (top 45), defBody (top 45), defScope (top 45), [], []⟩
def bd0 : Sms := .cons (.asg 1 (.call 1 (.cons (.var 0) .nil))) (.cons (.par 7 false (.lst (.nil)) 8 false (.int 7)) (.cons (.for_ (.nm 2) (.rng1 (.bin .add (.int 1) (.call 2 (.cons (.var 1) (.cons (.int 5) .nil))))) (.cons (.asg 9 (.call 2 (.cons (.var 1) (.cons (.bin .add (.int 1) (.min2 (.var 8) (.int 4))) .nil)))) (.cons (.par 7 false (.bin .add (.var 7) (.lst (.cons (.var 9) .nil))) 8 false (.bin .sub (.var 8) (.var 9))) .nil))) (.cons (.asg 3 (.lst (.nil))) (.cons (.for_ (.tp [10, 9]) (.enum (.ex (.var 7))) (.cons (.asg 3 (.bin .add (.var 3) (.bin .mul (.lst (.cons (.var 10) .nil)) (.var 9)))) .nil)) (.cons (.asg 4 (.int 0)) (.cons (.for_ (.nm 5) (.seq (.ex (.call 3 (.cons (.len (.ex (.var 3))) .nil)))) (.cons (.own 11 (.comp (.comp (.idx (.ex (.var 3)) (.var 12)) [12] (.nm 12) (.seq (.ex (.var 10))) .no) [10] (.nm 10) (.seq (.ex (.var 5))) .no)) (.cons (.frz 11) (.cons (.iff (.cmp .eq (.comp (.int 1) [13] (.nm 13) (.seq (.ex (.var 11))) (.yes (.or (.cons (.cmp .lt (.len (.ex (.var 13))) (.int 2)) (.cons (.cmp .lt (.lenSet (.ex (.var 13))) (.len (.ex (.var 13)))) .nil))))) (.lst (.nil))) (.cons (.asg 4 (.bin .add (.var 4) (.int 1))) .nil) (.nil)) .nil)))) (.cons (.asg 6 (.call 4 (.cons (.call 5 (.cons (.var 1) (.cons (.var 7) .nil))) .nil))) (.cons (.iff (.or (.cons (.not (.isI (.var 6) [.int] false)) (.cons (.isI (.var 6) [.bool] false) (.cons (.cmp .ne (.var 6) (.var 4)) .nil)))) (.cons (.ret (.bl false)) .nil) (.nil)) (.cons (.ret (.and (.cons (.cmp .eq (.call 4 (.cons (.call 6 (.cons (.var 1) (.cons (.bin .add (.var 7) (.lst (.cons (.int 0) .nil))) .nil))) .nil)) (.var 6)) (.cons (.cmp .eq (.call 4 (.cons (.tup (.nil)) .nil)) (.int 1)) .nil)))) .nil)))))))))
def ff0 : Fd := ⟨1, 14, [], none, bd0⟩
def fd0 : Dd := ⟨dd0, ff0, ["script", "pen", "lap", "own", "count", "lots", "told", "sizes", "left", "size", "lot", "marks", "item", "mark"], ["script"], [1], true⟩
def dd1 : He.DefD := ⟨("_law_pen", none), "_law_pen", "_law_pen", defArgs (top 40), defBody (top 40), defScope (top 40), [], []⟩
def bd1 : Sms := .cons (.asg 1 (.int 0)) (.cons (.for_ (.nm 2) (.seq (.ex (.var 0))) (.cons (.asg 1 (.bin .mod (.intOf (.bin .add (.bin .mul (.var 1) (.int 47)) (.var 2))) (.int 1000000007))) .nil)) (.cons (.ret (.disp [[99, 101, 108, 108, 115], [97, 116], [100, 105, 103, 105, 116, 115], [99, 111, 117, 110, 116], [102, 111, 108, 100]] (.cons (.listOf (.ex (.var 0))) (.cons (.int 0) (.cons (.int 0) (.cons (.int 0) (.cons (.var 1) .nil))))))) .nil))
def ff1 : Fd := ⟨1, 3, [], none, bd1⟩
def fd1 : Dd := ⟨dd1, ff1, ["script", "fold", "cell"], ["script"], [1], true⟩
def dd2 : He.DefD := ⟨("_law_draw", none), "_law_draw", "_law_draw", defArgs (top 41), defBody (top 41), defScope (top 41), [], []⟩
def bd2 : Sms := .cons (.dset 0 [99, 111, 117, 110, 116] (.bin .add (.dget (.var 0) [99, 111, 117, 110, 116]) (.int 1))) (.cons (.iff (.and (.cons (.cmp .eq (.dget (.var 0) [100, 105, 103, 105, 116, 115]) (.int 0)) (.cons (.cmp .lt (.dget (.var 0) [97, 116]) (.len (.ex (.dget (.var 0) [99, 101, 108, 108, 115])))) .nil))) (.cons (.asg 3 (.idx (.ex (.dget (.var 0) [99, 101, 108, 108, 115])) (.dget (.var 0) [97, 116]))) (.cons (.dset 0 [97, 116] (.bin .add (.dget (.var 0) [97, 116]) (.int 1))) (.cons (.iff (.cmp .ge (.var 3) (.bin .pow (.int 10) (.int 18))) (.cons (.dset 0 [100, 105, 103, 105, 116, 115] (.bin .sub (.var 3) (.bin .pow (.int 10) (.int 18)))) .nil) (.cons (.dset 0 [102, 111, 108, 100] (.bin .mod (.intOf (.bin .add (.bin .mul (.dget (.var 0) [102, 111, 108, 100]) (.int 69069)) (.var 3))) (.int 2147483587))) .nil)) .nil))) (.nil)) (.cons (.iff (.cmp .gt (.dget (.var 0) [100, 105, 103, 105, 116, 115]) (.int 0)) (.cons (.asg 4 (.bin .mod (.intOf (.dget (.var 0) [100, 105, 103, 105, 116, 115])) (.var 1))) (.cons (.dset 0 [100, 105, 103, 105, 116, 115] (.bin .fdiv (.dget (.var 0) [100, 105, 103, 105, 116, 115]) (.var 1))) (.cons (.ret (.var 4)) .nil))) (.nil)) (.cons (.asg 2 (.bin .add (.bin .add (.dget (.var 0) [102, 111, 108, 100]) (.bin .mul (.dget (.var 0) [99, 111, 117, 110, 116]) (.int 7907))) (.int 37))) (.cons (.ret (.bin .mod (.bin .fdiv (.intOf (.bin .mod (.bin .pow (.var 2) (.int 17)) (.int 2305843009213693951))) (.int 128)) (.var 1))) .nil))))
def ff2 : Fd := ⟨2, 5, [], none, bd2⟩
def fd2 : Dd := ⟨dd2, ff2, ["pen", "many", "mixed", "cell", "digit"], ["pen", "many"], [2], true⟩
def dd3 : He.DefD := ⟨("_law_partings", none), "_law_partings", "_law_partings", defArgs (top 44), defBody (top 44), defScope (top 44), [], []⟩
def bd3 : Sms := .cons (.asg 1 (.lst (.cons (.tup (.nil)) .nil))) (.cons (.for_ (.nm 2) (.rng1 (.var 0)) (.cons (.own 3 (.lst (.nil))) (.cons (.for_ (.nm 4) (.seq (.ex (.var 1))) (.cons (.for_ (.nm 5) (.rng1 (.len (.ex (.var 4)))) (.cons (.app 3 (.bin .add (.bin .add (.slc (.ex (.var 4)) .no (.yes (.var 5))) (.tup (.cons (.bin .add (.idx (.ex (.var 4)) (.var 5)) (.tup (.cons (.var 2) .nil))) .nil))) (.slc (.ex (.var 4)) (.yes (.bin .add (.var 5) (.int 1))) .no))) .nil)) (.cons (.app 3 (.bin .add (.var 4) (.tup (.cons (.tup (.cons (.var 2) .nil)) .nil)))) .nil))) (.cons (.frz 3) (.cons (.asg 1 (.var 3)) .nil))))) (.cons (.ret (.var 1)) .nil))
def ff3 : Fd := ⟨1, 6, [], none, bd3⟩
def fd3 : Dd := ⟨dd3, ff3, ["many", "found", "item", "longer", "lots", "at"], ["many"], [1], true⟩
def dd4 : He.DefD := ⟨("mixed_lots", none), "mixed_lots", "mixed_lots", defArgs (top 38), defBody (top 38), defScope (top 38), [], []⟩
def bd4 : Sms := .cons (.exp (.call 7 (.cons (.var 0) .nil))) (.cons (.ret (.fld (.call 8 (.cons (.call 9 (.cons (.comp (.call 10 (.cons (.var 1) .nil)) [1] (.nm 1) (.seq (.ex (.var 0))) .no) .nil)) .nil)) 3)) .nil)
def ff4 : Fd := ⟨1, 2, [], none, bd4⟩
def fd4 : Dd := ⟨dd4, ff4, ["sizes", "size"], ["sizes"], [1], true⟩
def dd5 : He.DefD := ⟨("_law_listed", none), "_law_listed", "_law_listed", defArgs (top 43), defBody (top 43), defScope (top 43), [], []⟩
def bd5 : Sms := .cons (.ret (.ife (.cmp .eq (.call 2 (.cons (.var 0) (.cons (.int 2) .nil))) (.int 0)) (.listOf (.ex (.var 1))) (.tupOf (.ex (.var 1))))) .nil
def ff5 : Fd := ⟨2, 2, [], none, bd5⟩
def fd5 : Dd := ⟨dd5, ff5, ["pen", "row"], ["pen", "row"], [2], true⟩
def dd6 : He.DefD := ⟨("_law_shuffled", none), "_law_shuffled", "_law_shuffled", defArgs (top 42), defBody (top 42), defScope (top 42), [], []⟩
def bd6 : Sms := .cons (.par 3 true (.listOf (.ex (.var 1))) 4 true (.lst (.nil))) (.cons (.for_ (.nm 2) (.rng1 (.len (.ex (.var 1)))) (.cons (.appPop 4 3 (.call 2 (.cons (.var 0) (.cons (.len (.own 3)) .nil)))) .nil)) (.cons (.frz 4) (.cons (.ret (.var 4)) .nil)))
def ff6 : Fd := ⟨2, 5, [], none, bd6⟩
def fd6 : Dd := ⟨dd6, ff6, ["pen", "some", "lap", "left", "found"], ["pen", "some"], [2], true⟩
def dd7 : He.DefD := ⟨("need_sizes", none), "need_sizes", "need_sizes", defArgs (top 36), defBody (top 36), defScope (top 36), [], []⟩
def bd7 : Sms := .cons (.iff (.or (.cons (.not (.call 11 (.cons (.var 0) .nil))) (.cons (.not (.all (.ex (.comp (.and (.cons (.call 12 (.cons (.var 1) .nil)) (.cons (.cmp .ge (.var 1) (.int 0)) .nil))) [1] (.nm 1) (.seq (.ex (.var 0))) .no)))) (.cons (.cmp .gt (.sum (.ex (.var 0))) (.con 0)) .nil)))) (.cons (.never) .nil) (.nil)) .nil
def ff7 : Fd := ⟨1, 2, [], none, bd7⟩
def fd7 : Dd := ⟨dd7, ff7, ["sizes", "size"], ["sizes"], [1], true⟩
def dd8 : He.DefD := ⟨("charlier_sum", none), "charlier_sum", "charlier_sum", defArgs (top 32), defBody (top 32), defScope (top 32), [], []⟩
def bd8 : Sms := .cons (.ret (.call 13 (.cons (.var 0) (.cons (.comp (.call 14 (.cons (.var 1) .nil)) [1] (.nm 1) (.rng1 (.call 15 (.cons (.var 0) .nil))) .no) .nil)))) .nil
def ff8 : Fd := ⟨1, 2, [], none, bd8⟩
def fd8 : Dd := ⟨dd8, ff8, ["p", "k"], ["p"], [1], true⟩
def dd9 : He.DefD := ⟨("product_of", none), "product_of", "product_of", defArgs (top 37), defBody (top 37), defScope (top 37), [], []⟩
def bd9 : Sms := .cons (.asg 1 (.new 0 (.cons (.tup (.cons (.int 1) .nil)) .nil))) (.cons (.for_ (.nm 2) (.seq (.ex (.var 0))) (.cons (.asg 1 (.bin .mul (.var 1) (.var 2))) .nil)) (.cons (.ret (.var 1)) .nil))
def ff9 : Fd := ⟨1, 3, [], none, bd9⟩
def fd9 : Dd := ⟨dd9, ff9, ["polys", "found", "poly"], ["polys"], [1], true⟩
def dd10 : He.DefD := ⟨("charlier_of", none), "charlier_of", "charlier_of", defArgs (top 33), defBody (top 33), defScope (top 33), [], []⟩
def bd10 : Sms := .cons (.own 1 (.lst (.cons (.new 0 (.cons (.tup (.cons (.int 1) .nil)) .nil)) (.cons (.new 0 (.cons (.tup (.cons (.neg (.int 1)) (.cons (.int 1) .nil))) .nil)) .nil)))) (.cons (.for_ (.nm 2) (.rng2 (.int 1) (.var 0)) (.cons (.app 1 (.bin .sub (.bin .mul (.new 0 (.cons (.tup (.cons (.bin .sub (.neg (.var 2)) (.int 1)) (.cons (.int 1) .nil))) .nil)) (.idx (.own 1) (.var 2))) (.bin .mul (.idx (.own 1) (.bin .sub (.var 2) (.int 1))) (.var 2)))) .nil)) (.cons (.ret (.idx (.own 1) (.var 0))) .nil))
def ff10 : Fd := ⟨1, 3, [], none, bd10⟩
def fd10 : Dd := ⟨dd10, ff10, ["n", "found", "k"], ["n"], [1], true⟩
def dd11 : He.DefD := ⟨("is_row", none), "is_row", "is_row", defArgs (top 11), defBody (top 11), defScope (top 11), [], []⟩
def bd11 : Sms := .cons (.ret (.isI (.var 0) [.list, .tuple] true)) .nil
def ff11 : Fd := ⟨1, 1, [], none, bd11⟩
def fd11 : Dd := ⟨dd11, ff11, ["value"], ["value"], [1], true⟩
def dd12 : He.DefD := ⟨("is_integer", none), "is_integer", "is_integer", defArgs (top 9), defBody (top 9), defScope (top 9), [], []⟩
def bd12 : Sms := .cons (.ret (.and (.cons (.isI (.var 0) [.int] false) (.cons (.not (.isI (.var 0) [.bool] false)) .nil)))) .nil
def ff12 : Fd := ⟨1, 1, [], none, bd12⟩
def fd12 : Dd := ⟨dd12, ff12, ["value"], ["value"], [1], true⟩
def dd13 : He.DefD := ⟨("weighed", none), "weighed", "weighed", defArgs (top 30), defBody (top 30), defScope (top 30), [], []⟩
def bd13 : Sms := .cons (.ret (.bin .add (.sum (.ex (.comp (.bin .mul (.var 2) (.var 3)) [2, 3] (.tp [2, 3]) (.zip (.ex (.fld (.var 0) 0)) (.ex (.var 1))) .no))) (.new 1 (.cons (.int 0) .nil)))) .nil
def ff13 : Fd := ⟨2, 4, [], none, bd13⟩
def fd13 : Dd := ⟨dd13, ff13, ["p", "weights", "number", "weight"], ["p", "weights"], [2], true⟩
def dd14 : He.DefD := ⟨("partings", none), "partings", "partings", defArgs (top 29), defBody (top 29), defScope (top 29), [], []⟩
def bd14 : Sms := .cons (.asg 1 (.lst (.cons (.int 1) .nil))) (.cons (.for_ (.nm 2) (.rng1 (.var 0)) (.cons (.own 3 (.lst (.cons (.idx (.ex (.var 1)) (.neg (.int 1))) .nil))) (.cons (.for_ (.nm 4) (.seq (.ex (.var 1))) (.cons (.app 3 (.bin .add (.idx (.own 3) (.neg (.int 1))) (.var 4))) .nil)) (.cons (.frz 3) (.cons (.asg 1 (.var 3)) .nil))))) (.cons (.ret (.idx (.ex (.var 1)) (.int 0))) .nil))
def ff14 : Fd := ⟨1, 5, [], none, bd14⟩
def fd14 : Dd := ⟨dd14, ff14, ["j", "row", "lap", "new", "item"], ["j"], [1], true⟩
def dd15 : He.DefD := ⟨("need_poly_size", none), "need_poly_size", "need_poly_size", defArgs (top 31), defBody (top 31), defScope (top 31), [], []⟩
def bd15 : Sms := .cons (.iff (.not (.isI (.var 0) [.cls 0] false)) (.cons (.never) .nil) (.nil)) (.cons (.ret (.bin .add (.fld (.var 0) 1) (.int 1))) .nil)
def ff15 : Fd := ⟨1, 1, [], none, bd15⟩
def fd15 : Dd := ⟨dd15, ff15, ["p"], ["p"], [1], true⟩
def dd16 : He.DefD := ⟨("without_zeros", none), "without_zeros", "without_zeros", defArgs (top 21), defBody (top 21), defScope (top 21), [], []⟩
def bd16 : Sms := .cons (.asg 1 (.len (.ex (.var 0)))) (.cons (.whl (.and (.cons (.cmp .gt (.var 1) (.int 0)) (.cons (.cmp .eq (.fld (.idx (.ex (.var 0)) (.bin .sub (.var 1) (.int 1))) 3) (.int 0)) .nil))) (.cons (.asg 1 (.bin .sub (.var 1) (.int 1))) .nil)) (.cons (.ret (.tupOf (.ex (.slc (.ex (.var 0)) .no (.yes (.var 1)))))) .nil))
def ff16 : Fd := ⟨1, 2, [], none, bd16⟩
def fd16 : Dd := ⟨dd16, ff16, ["ratios", "many"], ["ratios"], [1], true⟩
def dd17 : He.DefD := ⟨("need_numbers", none), "need_numbers", "need_numbers", defArgs (top 19), defBody (top 19), defScope (top 19), [], []⟩
def bd17 : Sms := .cons (.iff (.not (.call 11 (.cons (.var 0) .nil))) (.cons (.never) .nil) (.nil)) (.cons (.ret (.comp (.call 23 (.cons (.var 1) .nil)) [1] (.nm 1) (.seq (.ex (.var 0))) .no)) .nil)
def ff17 : Fd := ⟨1, 2, [], none, bd17⟩
def fd17 : Dd := ⟨dd17, ff17, ["numbers", "item"], ["numbers"], [1], true⟩
def dd18 : He.DefD := ⟨("is_number", none), "is_number", "is_number", defArgs (top 16), defBody (top 16), defScope (top 16), [], []⟩
def bd18 : Sms := .cons (.ret (.or (.cons (.call 12 (.cons (.var 0) .nil)) (.cons (.isI (.var 0) [.cls 1] false) .nil)))) .nil
def ff18 : Fd := ⟨1, 1, [], none, bd18⟩
def fd18 : Dd := ⟨dd18, ff18, ["value"], ["value"], [1], true⟩
def dd19 : He.DefD := ⟨("numbers_sum", none), "numbers_sum", "numbers_sum", defArgs (top 23), defBody (top 23), defScope (top 23), [], []⟩
def bd19 : Sms := .cons (.ret (.comp (.bin .add (.call 24 (.cons (.var 0) (.cons (.var 2) .nil))) (.call 24 (.cons (.var 1) (.cons (.var 2) .nil)))) [2] (.nm 2) (.rng1 (.max2 (.len (.ex (.var 0))) (.len (.ex (.var 1))))) .no)) .nil
def ff19 : Fd := ⟨2, 3, [], none, bd19⟩
def fd19 : Dd := ⟨dd19, ff19, ["one", "other", "k"], ["one", "other"], [2], true⟩
def dd20 : He.DefD := ⟨("plain_ratio", none), "plain_ratio", "plain_ratio", defArgs (top 17), defBody (top 17), defScope (top 17), [], []⟩
def bd20 : Sms := .cons (.ret (.ife (.call 12 (.cons (.var 0) .nil)) (.new 1 (.cons (.var 0) .nil)) (.var 0))) .nil
def ff20 : Fd := ⟨1, 1, [], none, bd20⟩
def fd20 : Dd := ⟨dd20, ff20, ["value"], ["value"], [1], true⟩
def dd21 : He.DefD := ⟨("numbers_less", none), "numbers_less", "numbers_less", defArgs (top 24), defBody (top 24), defScope (top 24), [], []⟩
def bd21 : Sms := .cons (.ret (.comp (.bin .sub (.call 24 (.cons (.var 0) (.cons (.var 2) .nil))) (.call 24 (.cons (.var 1) (.cons (.var 2) .nil)))) [2] (.nm 2) (.rng1 (.max2 (.len (.ex (.var 0))) (.len (.ex (.var 1))))) .no)) .nil
def ff21 : Fd := ⟨2, 3, [], none, bd21⟩
def fd21 : Dd := ⟨dd21, ff21, ["one", "other", "k"], ["one", "other"], [2], true⟩
def dd22 : He.DefD := ⟨("numbers_times", none), "numbers_times", "numbers_times", defArgs (top 25), defBody (top 25), defScope (top 25), [], []⟩
def bd22 : Sms := .cons (.asg 2 (.ife (.and (.cons (.cmp .gt (.len (.ex (.var 0))) (.int 0)) (.cons (.cmp .gt (.len (.ex (.var 1))) (.int 0)) .nil))) (.bin .sub (.bin .add (.len (.ex (.var 0))) (.len (.ex (.var 1)))) (.int 1)) (.int 0))) (.cons (.ret (.comp (.sum (.ex (.comp (.bin .mul (.idx (.ex (.var 0)) (.var 4)) (.idx (.ex (.var 1)) (.bin .sub (.var 3) (.var 4)))) [4] (.nm 4) (.rng1 (.len (.ex (.var 0)))) (.yes (.chn .le .lt (.int 0) (.bin .sub (.var 3) (.var 4)) (.len (.ex (.var 1)))))))) [3] (.nm 3) (.rng1 (.var 2)) .no)) .nil)
def ff22 : Fd := ⟨2, 5, [], none, bd22⟩
def fd22 : Dd := ⟨dd22, ff22, ["one", "other", "many", "k", "i"], ["one", "other"], [2], true⟩
def dd23 : He.DefD := ⟨("ratio_of", none), "ratio_of", "ratio_of", defArgs (top 18), defBody (top 18), defScope (top 18), [], []⟩
def bd23 : Sms := .cons (.iff (.not (.call 18 (.cons (.var 0) .nil))) (.cons (.never) .nil) (.nil)) (.cons (.ret (.call 20 (.cons (.var 0) .nil))) .nil)
def ff23 : Fd := ⟨1, 1, [], none, bd23⟩
def fd23 : Dd := ⟨dd23, ff23, ["number"], ["number"], [1], true⟩
def dd24 : He.DefD := ⟨("part_at", none), "part_at", "part_at", defArgs (top 22), defBody (top 22), defScope (top 22), [], []⟩
def bd24 : Sms := .cons (.ret (.ife (.cmp .lt (.var 1) (.len (.ex (.var 0)))) (.idx (.ex (.var 0)) (.var 1)) (.new 1 (.cons (.int 0) .nil)))) .nil
def ff24 : Fd := ⟨2, 2, [], none, bd24⟩
def fd24 : Dd := ⟨dd24, ff24, ["ratios", "k"], ["ratios", "k"], [2], true⟩
def dd25 : He.DefD := ⟨("Poly", some "__init__"), "__init__", "Poly.__init__", defArgs (inClass (top 26) 0), defBody (inClass (top 26) 0), defScope (inClass (top 26) 0), [.adr (He.dflAt ("Poly", some "__init__") 0)], []⟩
def bd25 : Sms := .cons (.sfl 0 0 (.call 16 (.cons (.call 17 (.cons (.var 1) .nil)) .nil))) (.cons (.sfl 0 1 (.bin .sub (.len (.ex (.sfl 0 0))) (.int 1))) (.cons (.sfl 0 2 (.ife (.cmp .gt (.len (.ex (.sfl 0 0))) (.int 0)) (.idx (.ex (.sfl 0 0)) (.neg (.int 1))) (.non))) .nil))
def ff25 : Fd := ⟨2, 2, [.tup []], some 0, bd25⟩
def fd25 : Dd := ⟨dd25, ff25, ["self", "numbers"], ["self", "numbers"], [2], false⟩
def dd26 : He.DefD := ⟨("Poly", some "__add__"), "__add__", "Poly.__add__", defArgs (inClass (top 26) 3), defBody (inClass (top 26) 3), defScope (inClass (top 26) 3), [], []⟩
def bd26 : Sms := .cons (.iff (.call 18 (.cons (.var 1) .nil)) (.cons (.ret (.new 0 (.cons (.call 19 (.cons (.fld (.var 0) 0) (.cons (.tup (.cons (.call 20 (.cons (.var 1) .nil)) .nil)) .nil))) .nil))) .nil) (.nil)) (.cons (.iff (.not (.isI (.var 1) [.cls 0] false)) (.cons (.never) .nil) (.nil)) (.cons (.ret (.new 0 (.cons (.call 19 (.cons (.fld (.var 0) 0) (.cons (.fld (.var 1) 0) .nil))) .nil))) .nil))
def ff26 : Fd := ⟨2, 2, [], none, bd26⟩
def fd26 : Dd := ⟨dd26, ff26, ["self", "other"], ["self", "other"], [2], false⟩
def dd27 : He.DefD := ⟨("Poly", some "__sub__"), "__sub__", "Poly.__sub__", defArgs (inClass (top 26) 5), defBody (inClass (top 26) 5), defScope (inClass (top 26) 5), [], []⟩
def bd27 : Sms := .cons (.iff (.call 18 (.cons (.var 1) .nil)) (.cons (.ret (.new 0 (.cons (.call 21 (.cons (.fld (.var 0) 0) (.cons (.tup (.cons (.call 20 (.cons (.var 1) .nil)) .nil)) .nil))) .nil))) .nil) (.nil)) (.cons (.iff (.not (.isI (.var 1) [.cls 0] false)) (.cons (.never) .nil) (.nil)) (.cons (.ret (.new 0 (.cons (.call 21 (.cons (.fld (.var 0) 0) (.cons (.fld (.var 1) 0) .nil))) .nil))) .nil))
def ff27 : Fd := ⟨2, 2, [], none, bd27⟩
def fd27 : Dd := ⟨dd27, ff27, ["self", "other"], ["self", "other"], [2], false⟩
def dd28 : He.DefD := ⟨("Poly", some "__mul__"), "__mul__", "Poly.__mul__", defArgs (inClass (top 26) 7), defBody (inClass (top 26) 7), defScope (inClass (top 26) 7), [], []⟩
def bd28 : Sms := .cons (.iff (.call 18 (.cons (.var 1) .nil)) (.cons (.ret (.new 0 (.cons (.comp (.bin .mul (.var 2) (.var 1)) [2] (.nm 2) (.seq (.ex (.fld (.var 0) 0))) .no) .nil))) .nil) (.nil)) (.cons (.iff (.not (.isI (.var 1) [.cls 0] false)) (.cons (.never) .nil) (.nil)) (.cons (.ret (.new 0 (.cons (.call 22 (.cons (.fld (.var 0) 0) (.cons (.fld (.var 1) 0) .nil))) .nil))) .nil))
def ff28 : Fd := ⟨2, 3, [], none, bd28⟩
def fd28 : Dd := ⟨dd28, ff28, ["self", "other", "item"], ["self", "other"], [2], false⟩
def dd29 : He.DefD := ⟨("Poly", some "__radd__"), "__radd__", "Poly.__radd__", defArgs (inClass (top 26) 4), defBody (inClass (top 26) 4), defScope (inClass (top 26) 4), [], []⟩
def bd29 : Sms := .cons (.iff (.not (.call 18 (.cons (.var 1) .nil))) (.cons (.never) .nil) (.nil)) (.cons (.ret (.new 0 (.cons (.call 19 (.cons (.fld (.var 0) 0) (.cons (.tup (.cons (.call 20 (.cons (.var 1) .nil)) .nil)) .nil))) .nil))) .nil)
def ff29 : Fd := ⟨2, 2, [], none, bd29⟩
def fd29 : Dd := ⟨dd29, ff29, ["self", "other"], ["self", "other"], [2], false⟩
def dd30 : He.DefD := ⟨("Poly", some "__rsub__"), "__rsub__", "Poly.__rsub__", defArgs (inClass (top 26) 6), defBody (inClass (top 26) 6), defScope (inClass (top 26) 6), [], []⟩
def bd30 : Sms := .cons (.iff (.not (.call 18 (.cons (.var 1) .nil))) (.cons (.never) .nil) (.nil)) (.cons (.ret (.new 0 (.cons (.call 21 (.cons (.tup (.cons (.call 20 (.cons (.var 1) .nil)) .nil)) (.cons (.fld (.var 0) 0) .nil))) .nil))) .nil)
def ff30 : Fd := ⟨2, 2, [], none, bd30⟩
def fd30 : Dd := ⟨dd30, ff30, ["self", "other"], ["self", "other"], [2], false⟩
def dd31 : He.DefD := ⟨("Poly", some "__rmul__"), "__rmul__", "Poly.__rmul__", defArgs (inClass (top 26) 8), defBody (inClass (top 26) 8), defScope (inClass (top 26) 8), [], []⟩
def bd31 : Sms := .cons (.iff (.not (.call 18 (.cons (.var 1) .nil))) (.cons (.never) .nil) (.nil)) (.cons (.ret (.new 0 (.cons (.comp (.bin .mul (.var 2) (.var 1)) [2] (.nm 2) (.seq (.ex (.fld (.var 0) 0))) .no) .nil))) .nil)
def ff31 : Fd := ⟨2, 3, [], none, bd31⟩
def fd31 : Dd := ⟨dd31, ff31, ["self", "other", "item"], ["self", "other"], [2], false⟩
def dd32 : He.DefD := ⟨("Poly", some "__neg__"), "__neg__", "Poly.__neg__", defArgs (inClass (top 26) 2), defBody (inClass (top 26) 2), defScope (inClass (top 26) 2), [], []⟩
def bd32 : Sms := .cons (.ret (.new 0 (.cons (.comp (.neg (.var 1)) [1] (.nm 1) (.seq (.ex (.fld (.var 0) 0))) .no) .nil))) .nil
def ff32 : Fd := ⟨1, 2, [], none, bd32⟩
def fd32 : Dd := ⟨dd32, ff32, ["self", "item"], ["self"], [1], false⟩
def dd33 : He.DefD := ⟨("Ratio", some "__init__"), "__init__", "Ratio.__init__", defArgs (inClass (top 14) 0), defBody (inClass (top 14) 0), defScope (inClass (top 14) 0), [.int 1], []⟩
def bd33 : Sms := .cons (.iff (.not (.call 12 (.cons (.var 1) .nil))) (.cons (.never) .nil) (.nil)) (.cons (.iff (.or (.cons (.not (.call 12 (.cons (.var 2) .nil))) (.cons (.cmp .eq (.var 2) (.int 0)) .nil))) (.cons (.never) .nil) (.nil)) (.cons (.asg 3 (.ife (.cmp .gt (.var 2) (.int 0)) (.gcd (.var 1) (.var 2)) (.neg (.gcd (.var 1) (.var 2))))) (.cons (.sfl 0 3 (.bin .fdiv (.var 1) (.var 3))) (.cons (.sfl 0 4 (.bin .fdiv (.var 2) (.var 3))) (.cons (.sfl 0 5 (.bin .sub (.cmp .gt (.sfl 0 3) (.int 0)) (.cmp .lt (.sfl 0 3) (.int 0)))) (.cons (.sfl 0 6 (.cmp .eq (.sfl 0 4) (.int 1))) .nil))))))
def ff33 : Fd := ⟨3, 4, [.int 1], some 1, bd33⟩
def fd33 : Dd := ⟨dd33, ff33, ["self", "top", "bottom", "shared"], ["self", "top", "bottom"], [2, 3], false⟩
def dd34 : He.DefD := ⟨("Ratio", some "__add__"), "__add__", "Ratio.__add__", defArgs (inClass (top 14) 4), defBody (inClass (top 14) 4), defScope (inClass (top 14) 4), [], []⟩
def bd34 : Sms := .cons (.iff (.call 12 (.cons (.var 1) .nil)) (.cons (.ret (.new 1 (.cons (.bin .add (.fld (.var 0) 3) (.bin .mul (.var 1) (.fld (.var 0) 4))) (.cons (.fld (.var 0) 4) .nil)))) .nil) (.nil)) (.cons (.iff (.not (.isI (.var 1) [.cls 1] false)) (.cons (.never) .nil) (.nil)) (.cons (.ret (.new 1 (.cons (.bin .add (.bin .mul (.fld (.var 0) 3) (.fld (.var 1) 4)) (.bin .mul (.fld (.var 1) 3) (.fld (.var 0) 4))) (.cons (.bin .mul (.fld (.var 0) 4) (.fld (.var 1) 4)) .nil)))) .nil))
def ff34 : Fd := ⟨2, 2, [], none, bd34⟩
def fd34 : Dd := ⟨dd34, ff34, ["self", "other"], ["self", "other"], [2], false⟩
def dd35 : He.DefD := ⟨("Ratio", some "__sub__"), "__sub__", "Ratio.__sub__", defArgs (inClass (top 14) 6), defBody (inClass (top 14) 6), defScope (inClass (top 14) 6), [], []⟩
def bd35 : Sms := .cons (.iff (.call 12 (.cons (.var 1) .nil)) (.cons (.ret (.new 1 (.cons (.bin .sub (.fld (.var 0) 3) (.bin .mul (.var 1) (.fld (.var 0) 4))) (.cons (.fld (.var 0) 4) .nil)))) .nil) (.nil)) (.cons (.iff (.not (.isI (.var 1) [.cls 1] false)) (.cons (.never) .nil) (.nil)) (.cons (.ret (.new 1 (.cons (.bin .sub (.bin .mul (.fld (.var 0) 3) (.fld (.var 1) 4)) (.bin .mul (.fld (.var 1) 3) (.fld (.var 0) 4))) (.cons (.bin .mul (.fld (.var 0) 4) (.fld (.var 1) 4)) .nil)))) .nil))
def ff35 : Fd := ⟨2, 2, [], none, bd35⟩
def fd35 : Dd := ⟨dd35, ff35, ["self", "other"], ["self", "other"], [2], false⟩
def dd36 : He.DefD := ⟨("Ratio", some "__mul__"), "__mul__", "Ratio.__mul__", defArgs (inClass (top 14) 8), defBody (inClass (top 14) 8), defScope (inClass (top 14) 8), [], []⟩
def bd36 : Sms := .cons (.iff (.call 12 (.cons (.var 1) .nil)) (.cons (.ret (.new 1 (.cons (.bin .mul (.fld (.var 0) 3) (.var 1)) (.cons (.fld (.var 0) 4) .nil)))) .nil) (.nil)) (.cons (.iff (.not (.isI (.var 1) [.cls 1] false)) (.cons (.never) .nil) (.nil)) (.cons (.ret (.new 1 (.cons (.bin .mul (.fld (.var 0) 3) (.fld (.var 1) 3)) (.cons (.bin .mul (.fld (.var 0) 4) (.fld (.var 1) 4)) .nil)))) .nil))
def ff36 : Fd := ⟨2, 2, [], none, bd36⟩
def fd36 : Dd := ⟨dd36, ff36, ["self", "other"], ["self", "other"], [2], false⟩
def dd37 : He.DefD := ⟨("Ratio", some "__radd__"), "__radd__", "Ratio.__radd__", defArgs (inClass (top 14) 5), defBody (inClass (top 14) 5), defScope (inClass (top 14) 5), [], []⟩
def bd37 : Sms := .cons (.iff (.not (.call 12 (.cons (.var 1) .nil))) (.cons (.never) .nil) (.nil)) (.cons (.ret (.new 1 (.cons (.bin .add (.fld (.var 0) 3) (.bin .mul (.var 1) (.fld (.var 0) 4))) (.cons (.fld (.var 0) 4) .nil)))) .nil)
def ff37 : Fd := ⟨2, 2, [], none, bd37⟩
def fd37 : Dd := ⟨dd37, ff37, ["self", "other"], ["self", "other"], [2], false⟩
def dd38 : He.DefD := ⟨("Ratio", some "__rsub__"), "__rsub__", "Ratio.__rsub__", defArgs (inClass (top 14) 7), defBody (inClass (top 14) 7), defScope (inClass (top 14) 7), [], []⟩
def bd38 : Sms := .cons (.iff (.not (.call 12 (.cons (.var 1) .nil))) (.cons (.never) .nil) (.nil)) (.cons (.ret (.new 1 (.cons (.bin .sub (.bin .mul (.var 1) (.fld (.var 0) 4)) (.fld (.var 0) 3)) (.cons (.fld (.var 0) 4) .nil)))) .nil)
def ff38 : Fd := ⟨2, 2, [], none, bd38⟩
def fd38 : Dd := ⟨dd38, ff38, ["self", "other"], ["self", "other"], [2], false⟩
def dd39 : He.DefD := ⟨("Ratio", some "__rmul__"), "__rmul__", "Ratio.__rmul__", defArgs (inClass (top 14) 9), defBody (inClass (top 14) 9), defScope (inClass (top 14) 9), [], []⟩
def bd39 : Sms := .cons (.iff (.not (.call 12 (.cons (.var 1) .nil))) (.cons (.never) .nil) (.nil)) (.cons (.ret (.new 1 (.cons (.bin .mul (.fld (.var 0) 3) (.var 1)) (.cons (.fld (.var 0) 4) .nil)))) .nil)
def ff39 : Fd := ⟨2, 2, [], none, bd39⟩
def fd39 : Dd := ⟨dd39, ff39, ["self", "other"], ["self", "other"], [2], false⟩
def dd40 : He.DefD := ⟨("Ratio", some "__neg__"), "__neg__", "Ratio.__neg__", defArgs (inClass (top 14) 3), defBody (inClass (top 14) 3), defScope (inClass (top 14) 3), [], []⟩
def bd40 : Sms := .cons (.ret (.new 1 (.cons (.neg (.fld (.var 0) 3)) (.cons (.fld (.var 0) 4) .nil)))) .nil
def ff40 : Fd := ⟨1, 1, [], none, bd40⟩
def fd40 : Dd := ⟨dd40, ff40, ["self"], ["self"], [1], false⟩
def cl0 : Cl := ⟨25, [0, 1, 2], fun o => match o with | .add => some 26 | .sub => some 27 | .mul => some 28 | _ => none, fun o => match o with | .add => some 29 | .sub => some 30 | .mul => some 31 | _ => none, some 32, none, fun _ => none⟩
def dc0 : Dc := ⟨"Poly", cl0, [1]⟩
def cl1 : Cl := ⟨33, [3, 4, 5, 6], fun o => match o with | .add => some 34 | .sub => some 35 | .mul => some 36 | _ => none, fun o => match o with | .add => some 37 | .sub => some 38 | .mul => some 39 | _ => none, some 40, none, fun _ => none⟩
def dc1 : Dc := ⟨"Ratio", cl1, [1, 2]⟩
def cons : List (Str × D) := [("MOST_THINGS", .int 8)]
def table : Ld := ⟨[fd0, fd1, fd2, fd3, fd4, fd5, fd6, fd7, fd8, fd9, fd10, fd11, fd12, fd13, fd14, fd15, fd16, fd17, fd18, fd19, fd20, fd21, fd22, fd23, fd24, fd25, fd26, fd27, fd28, fd29, fd30, fd31, fd32, fd33, fd34, fd35, fd36, fd37, fd38, fd39, fd40], [dc0, dc1], cons, ["numbers", "degree", "lead", "top", "bottom", "sign", "whole"], [], true⟩
theorem st_ok : stL table = true := by kernel_rfl
theorem bn0 (K : PySem.W.Frag) (a : Addr) (fd : FuncData) (F : FunD K fd0.d.name fd0.d.qual fd0.d.params fd0.d.body fd0.d.scope (fd0.d.dvs K) [] a fd) (k : Nat) (hk : fd0.ars.contains k = true) : k ≤ fd0.ps.length ∧ fd0.ps.length ≤ k + (fd0.d.dvs K).length ∧ ∃ ds, Vals ((fd0.d.dvs K).drop ((fd0.d.dvs K).length - (fd0.ps.length - k))) ds ∧ Binds K fd fd0.ps ds := by
  have e : k = 1 := by simpa [fd0] using hk
  rcases e with rfl
  · exact ⟨Nat.le_refl _, Nat.le_add_right _ _, [], .nil, FunD.bindsN (ps := fd0.ps) (show FunD K fd0.d.name fd0.d.qual fd0.d.params fd0.d.body fd0.d.scope [] [] a fd from F) fun _ _ _ _ _ _ us hl => match us, hl with | [_], _ => rfl⟩
theorem bn1 (K : PySem.W.Frag) (a : Addr) (fd : FuncData) (F : FunD K fd1.d.name fd1.d.qual fd1.d.params fd1.d.body fd1.d.scope (fd1.d.dvs K) [] a fd) (k : Nat) (hk : fd1.ars.contains k = true) : k ≤ fd1.ps.length ∧ fd1.ps.length ≤ k + (fd1.d.dvs K).length ∧ ∃ ds, Vals ((fd1.d.dvs K).drop ((fd1.d.dvs K).length - (fd1.ps.length - k))) ds ∧ Binds K fd fd1.ps ds := by
  have e : k = 1 := by simpa [fd1] using hk
  rcases e with rfl
  · exact ⟨Nat.le_refl _, Nat.le_add_right _ _, [], .nil, FunD.bindsN (ps := fd1.ps) (show FunD K fd1.d.name fd1.d.qual fd1.d.params fd1.d.body fd1.d.scope [] [] a fd from F) fun _ _ _ _ _ _ us hl => match us, hl with | [_], _ => rfl⟩
theorem bn2 (K : PySem.W.Frag) (a : Addr) (fd : FuncData) (F : FunD K fd2.d.name fd2.d.qual fd2.d.params fd2.d.body fd2.d.scope (fd2.d.dvs K) [] a fd) (k : Nat) (hk : fd2.ars.contains k = true) : k ≤ fd2.ps.length ∧ fd2.ps.length ≤ k + (fd2.d.dvs K).length ∧ ∃ ds, Vals ((fd2.d.dvs K).drop ((fd2.d.dvs K).length - (fd2.ps.length - k))) ds ∧ Binds K fd fd2.ps ds := by
  have e : k = 2 := by simpa [fd2] using hk
  rcases e with rfl
  · exact ⟨Nat.le_refl _, Nat.le_add_right _ _, [], .nil, FunD.bindsN (ps := fd2.ps) (show FunD K fd2.d.name fd2.d.qual fd2.d.params fd2.d.body fd2.d.scope [] [] a fd from F) fun _ _ _ _ _ _ us hl => match us, hl with | [_, _], _ => rfl⟩
theorem bn3 (K : PySem.W.Frag) (a : Addr) (fd : FuncData) (F : FunD K fd3.d.name fd3.d.qual fd3.d.params fd3.d.body fd3.d.scope (fd3.d.dvs K) [] a fd) (k : Nat) (hk : fd3.ars.contains k = true) : k ≤ fd3.ps.length ∧ fd3.ps.length ≤ k + (fd3.d.dvs K).length ∧ ∃ ds, Vals ((fd3.d.dvs K).drop ((fd3.d.dvs K).length - (fd3.ps.length - k))) ds ∧ Binds K fd fd3.ps ds := by
  have e : k = 1 := by simpa [fd3] using hk
  rcases e with rfl
  · exact ⟨Nat.le_refl _, Nat.le_add_right _ _, [], .nil, FunD.bindsN (ps := fd3.ps) (show FunD K fd3.d.name fd3.d.qual fd3.d.params fd3.d.body fd3.d.scope [] [] a fd from F) fun _ _ _ _ _ _ us hl => match us, hl with | [_], _ => rfl⟩
theorem bn4 (K : PySem.W.Frag) (a : Addr) (fd : FuncData) (F : FunD K fd4.d.name fd4.d.qual fd4.d.params fd4.d.body fd4.d.scope (fd4.d.dvs K) [] a fd) (k : Nat) (hk : fd4.ars.contains k = true) : k ≤ fd4.ps.length ∧ fd4.ps.length ≤ k + (fd4.d.dvs K).length ∧ ∃ ds, Vals ((fd4.d.dvs K).drop ((fd4.d.dvs K).length - (fd4.ps.length - k))) ds ∧ Binds K fd fd4.ps ds := by
  have e : k = 1 := by simpa [fd4] using hk
  rcases e with rfl
  · exact ⟨Nat.le_refl _, Nat.le_add_right _ _, [], .nil, FunD.bindsN (ps := fd4.ps) (show FunD K fd4.d.name fd4.d.qual fd4.d.params fd4.d.body fd4.d.scope [] [] a fd from F) fun _ _ _ _ _ _ us hl => match us, hl with | [_], _ => rfl⟩
theorem bn5 (K : PySem.W.Frag) (a : Addr) (fd : FuncData) (F : FunD K fd5.d.name fd5.d.qual fd5.d.params fd5.d.body fd5.d.scope (fd5.d.dvs K) [] a fd) (k : Nat) (hk : fd5.ars.contains k = true) : k ≤ fd5.ps.length ∧ fd5.ps.length ≤ k + (fd5.d.dvs K).length ∧ ∃ ds, Vals ((fd5.d.dvs K).drop ((fd5.d.dvs K).length - (fd5.ps.length - k))) ds ∧ Binds K fd fd5.ps ds := by
  have e : k = 2 := by simpa [fd5] using hk
  rcases e with rfl
  · exact ⟨Nat.le_refl _, Nat.le_add_right _ _, [], .nil, FunD.bindsN (ps := fd5.ps) (show FunD K fd5.d.name fd5.d.qual fd5.d.params fd5.d.body fd5.d.scope [] [] a fd from F) fun _ _ _ _ _ _ us hl => match us, hl with | [_, _], _ => rfl⟩
theorem bn6 (K : PySem.W.Frag) (a : Addr) (fd : FuncData) (F : FunD K fd6.d.name fd6.d.qual fd6.d.params fd6.d.body fd6.d.scope (fd6.d.dvs K) [] a fd) (k : Nat) (hk : fd6.ars.contains k = true) : k ≤ fd6.ps.length ∧ fd6.ps.length ≤ k + (fd6.d.dvs K).length ∧ ∃ ds, Vals ((fd6.d.dvs K).drop ((fd6.d.dvs K).length - (fd6.ps.length - k))) ds ∧ Binds K fd fd6.ps ds := by
  have e : k = 2 := by simpa [fd6] using hk
  rcases e with rfl
  · exact ⟨Nat.le_refl _, Nat.le_add_right _ _, [], .nil, FunD.bindsN (ps := fd6.ps) (show FunD K fd6.d.name fd6.d.qual fd6.d.params fd6.d.body fd6.d.scope [] [] a fd from F) fun _ _ _ _ _ _ us hl => match us, hl with | [_, _], _ => rfl⟩
theorem bn7 (K : PySem.W.Frag) (a : Addr) (fd : FuncData) (F : FunD K fd7.d.name fd7.d.qual fd7.d.params fd7.d.body fd7.d.scope (fd7.d.dvs K) [] a fd) (k : Nat) (hk : fd7.ars.contains k = true) : k ≤ fd7.ps.length ∧ fd7.ps.length ≤ k + (fd7.d.dvs K).length ∧ ∃ ds, Vals ((fd7.d.dvs K).drop ((fd7.d.dvs K).length - (fd7.ps.length - k))) ds ∧ Binds K fd fd7.ps ds := by
  have e : k = 1 := by simpa [fd7] using hk
  rcases e with rfl
  · exact ⟨Nat.le_refl _, Nat.le_add_right _ _, [], .nil, FunD.bindsN (ps := fd7.ps) (show FunD K fd7.d.name fd7.d.qual fd7.d.params fd7.d.body fd7.d.scope [] [] a fd from F) fun _ _ _ _ _ _ us hl => match us, hl with | [_], _ => rfl⟩
theorem bn8 (K : PySem.W.Frag) (a : Addr) (fd : FuncData) (F : FunD K fd8.d.name fd8.d.qual fd8.d.params fd8.d.body fd8.d.scope (fd8.d.dvs K) [] a fd) (k : Nat) (hk : fd8.ars.contains k = true) : k ≤ fd8.ps.length ∧ fd8.ps.length ≤ k + (fd8.d.dvs K).length ∧ ∃ ds, Vals ((fd8.d.dvs K).drop ((fd8.d.dvs K).length - (fd8.ps.length - k))) ds ∧ Binds K fd fd8.ps ds := by
  have e : k = 1 := by simpa [fd8] using hk
  rcases e with rfl
  · exact ⟨Nat.le_refl _, Nat.le_add_right _ _, [], .nil, FunD.bindsN (ps := fd8.ps) (show FunD K fd8.d.name fd8.d.qual fd8.d.params fd8.d.body fd8.d.scope [] [] a fd from F) fun _ _ _ _ _ _ us hl => match us, hl with | [_], _ => rfl⟩
theorem bn9 (K : PySem.W.Frag) (a : Addr) (fd : FuncData) (F : FunD K fd9.d.name fd9.d.qual fd9.d.params fd9.d.body fd9.d.scope (fd9.d.dvs K) [] a fd) (k : Nat) (hk : fd9.ars.contains k = true) : k ≤ fd9.ps.length ∧ fd9.ps.length ≤ k + (fd9.d.dvs K).length ∧ ∃ ds, Vals ((fd9.d.dvs K).drop ((fd9.d.dvs K).length - (fd9.ps.length - k))) ds ∧ Binds K fd fd9.ps ds := by
  have e : k = 1 := by simpa [fd9] using hk
  rcases e with rfl
  · exact ⟨Nat.le_refl _, Nat.le_add_right _ _, [], .nil, FunD.bindsN (ps := fd9.ps) (show FunD K fd9.d.name fd9.d.qual fd9.d.params fd9.d.body fd9.d.scope [] [] a fd from F) fun _ _ _ _ _ _ us hl => match us, hl with | [_], _ => rfl⟩
theorem bn10 (K : PySem.W.Frag) (a : Addr) (fd : FuncData) (F : FunD K fd10.d.name fd10.d.qual fd10.d.params fd10.d.body fd10.d.scope (fd10.d.dvs K) [] a fd) (k : Nat) (hk : fd10.ars.contains k = true) : k ≤ fd10.ps.length ∧ fd10.ps.length ≤ k + (fd10.d.dvs K).length ∧ ∃ ds, Vals ((fd10.d.dvs K).drop ((fd10.d.dvs K).length - (fd10.ps.length - k))) ds ∧ Binds K fd fd10.ps ds := by
  have e : k = 1 := by simpa [fd10] using hk
  rcases e with rfl
  · exact ⟨Nat.le_refl _, Nat.le_add_right _ _, [], .nil, FunD.bindsN (ps := fd10.ps) (show FunD K fd10.d.name fd10.d.qual fd10.d.params fd10.d.body fd10.d.scope [] [] a fd from F) fun _ _ _ _ _ _ us hl => match us, hl with | [_], _ => rfl⟩
theorem bn11 (K : PySem.W.Frag) (a : Addr) (fd : FuncData) (F : FunD K fd11.d.name fd11.d.qual fd11.d.params fd11.d.body fd11.d.scope (fd11.d.dvs K) [] a fd) (k : Nat) (hk : fd11.ars.contains k = true) : k ≤ fd11.ps.length ∧ fd11.ps.length ≤ k + (fd11.d.dvs K).length ∧ ∃ ds, Vals ((fd11.d.dvs K).drop ((fd11.d.dvs K).length - (fd11.ps.length - k))) ds ∧ Binds K fd fd11.ps ds := by
  have e : k = 1 := by simpa [fd11] using hk
  rcases e with rfl
  · exact ⟨Nat.le_refl _, Nat.le_add_right _ _, [], .nil, FunD.bindsN (ps := fd11.ps) (show FunD K fd11.d.name fd11.d.qual fd11.d.params fd11.d.body fd11.d.scope [] [] a fd from F) fun _ _ _ _ _ _ us hl => match us, hl with | [_], _ => rfl⟩
theorem bn12 (K : PySem.W.Frag) (a : Addr) (fd : FuncData) (F : FunD K fd12.d.name fd12.d.qual fd12.d.params fd12.d.body fd12.d.scope (fd12.d.dvs K) [] a fd) (k : Nat) (hk : fd12.ars.contains k = true) : k ≤ fd12.ps.length ∧ fd12.ps.length ≤ k + (fd12.d.dvs K).length ∧ ∃ ds, Vals ((fd12.d.dvs K).drop ((fd12.d.dvs K).length - (fd12.ps.length - k))) ds ∧ Binds K fd fd12.ps ds := by
  have e : k = 1 := by simpa [fd12] using hk
  rcases e with rfl
  · exact ⟨Nat.le_refl _, Nat.le_add_right _ _, [], .nil, FunD.bindsN (ps := fd12.ps) (show FunD K fd12.d.name fd12.d.qual fd12.d.params fd12.d.body fd12.d.scope [] [] a fd from F) fun _ _ _ _ _ _ us hl => match us, hl with | [_], _ => rfl⟩
theorem bn13 (K : PySem.W.Frag) (a : Addr) (fd : FuncData) (F : FunD K fd13.d.name fd13.d.qual fd13.d.params fd13.d.body fd13.d.scope (fd13.d.dvs K) [] a fd) (k : Nat) (hk : fd13.ars.contains k = true) : k ≤ fd13.ps.length ∧ fd13.ps.length ≤ k + (fd13.d.dvs K).length ∧ ∃ ds, Vals ((fd13.d.dvs K).drop ((fd13.d.dvs K).length - (fd13.ps.length - k))) ds ∧ Binds K fd fd13.ps ds := by
  have e : k = 2 := by simpa [fd13] using hk
  rcases e with rfl
  · exact ⟨Nat.le_refl _, Nat.le_add_right _ _, [], .nil, FunD.bindsN (ps := fd13.ps) (show FunD K fd13.d.name fd13.d.qual fd13.d.params fd13.d.body fd13.d.scope [] [] a fd from F) fun _ _ _ _ _ _ us hl => match us, hl with | [_, _], _ => rfl⟩
theorem bn14 (K : PySem.W.Frag) (a : Addr) (fd : FuncData) (F : FunD K fd14.d.name fd14.d.qual fd14.d.params fd14.d.body fd14.d.scope (fd14.d.dvs K) [] a fd) (k : Nat) (hk : fd14.ars.contains k = true) : k ≤ fd14.ps.length ∧ fd14.ps.length ≤ k + (fd14.d.dvs K).length ∧ ∃ ds, Vals ((fd14.d.dvs K).drop ((fd14.d.dvs K).length - (fd14.ps.length - k))) ds ∧ Binds K fd fd14.ps ds := by
  have e : k = 1 := by simpa [fd14] using hk
  rcases e with rfl
  · exact ⟨Nat.le_refl _, Nat.le_add_right _ _, [], .nil, FunD.bindsN (ps := fd14.ps) (show FunD K fd14.d.name fd14.d.qual fd14.d.params fd14.d.body fd14.d.scope [] [] a fd from F) fun _ _ _ _ _ _ us hl => match us, hl with | [_], _ => rfl⟩
theorem bn15 (K : PySem.W.Frag) (a : Addr) (fd : FuncData) (F : FunD K fd15.d.name fd15.d.qual fd15.d.params fd15.d.body fd15.d.scope (fd15.d.dvs K) [] a fd) (k : Nat) (hk : fd15.ars.contains k = true) : k ≤ fd15.ps.length ∧ fd15.ps.length ≤ k + (fd15.d.dvs K).length ∧ ∃ ds, Vals ((fd15.d.dvs K).drop ((fd15.d.dvs K).length - (fd15.ps.length - k))) ds ∧ Binds K fd fd15.ps ds := by
  have e : k = 1 := by simpa [fd15] using hk
  rcases e with rfl
  · exact ⟨Nat.le_refl _, Nat.le_add_right _ _, [], .nil, FunD.bindsN (ps := fd15.ps) (show FunD K fd15.d.name fd15.d.qual fd15.d.params fd15.d.body fd15.d.scope [] [] a fd from F) fun _ _ _ _ _ _ us hl => match us, hl with | [_], _ => rfl⟩
theorem bn16 (K : PySem.W.Frag) (a : Addr) (fd : FuncData) (F : FunD K fd16.d.name fd16.d.qual fd16.d.params fd16.d.body fd16.d.scope (fd16.d.dvs K) [] a fd) (k : Nat) (hk : fd16.ars.contains k = true) : k ≤ fd16.ps.length ∧ fd16.ps.length ≤ k + (fd16.d.dvs K).length ∧ ∃ ds, Vals ((fd16.d.dvs K).drop ((fd16.d.dvs K).length - (fd16.ps.length - k))) ds ∧ Binds K fd fd16.ps ds := by
  have e : k = 1 := by simpa [fd16] using hk
  rcases e with rfl
  · exact ⟨Nat.le_refl _, Nat.le_add_right _ _, [], .nil, FunD.bindsN (ps := fd16.ps) (show FunD K fd16.d.name fd16.d.qual fd16.d.params fd16.d.body fd16.d.scope [] [] a fd from F) fun _ _ _ _ _ _ us hl => match us, hl with | [_], _ => rfl⟩
theorem bn17 (K : PySem.W.Frag) (a : Addr) (fd : FuncData) (F : FunD K fd17.d.name fd17.d.qual fd17.d.params fd17.d.body fd17.d.scope (fd17.d.dvs K) [] a fd) (k : Nat) (hk : fd17.ars.contains k = true) : k ≤ fd17.ps.length ∧ fd17.ps.length ≤ k + (fd17.d.dvs K).length ∧ ∃ ds, Vals ((fd17.d.dvs K).drop ((fd17.d.dvs K).length - (fd17.ps.length - k))) ds ∧ Binds K fd fd17.ps ds := by
  have e : k = 1 := by simpa [fd17] using hk
  rcases e with rfl
  · exact ⟨Nat.le_refl _, Nat.le_add_right _ _, [], .nil, FunD.bindsN (ps := fd17.ps) (show FunD K fd17.d.name fd17.d.qual fd17.d.params fd17.d.body fd17.d.scope [] [] a fd from F) fun _ _ _ _ _ _ us hl => match us, hl with | [_], _ => rfl⟩
theorem bn18 (K : PySem.W.Frag) (a : Addr) (fd : FuncData) (F : FunD K fd18.d.name fd18.d.qual fd18.d.params fd18.d.body fd18.d.scope (fd18.d.dvs K) [] a fd) (k : Nat) (hk : fd18.ars.contains k = true) : k ≤ fd18.ps.length ∧ fd18.ps.length ≤ k + (fd18.d.dvs K).length ∧ ∃ ds, Vals ((fd18.d.dvs K).drop ((fd18.d.dvs K).length - (fd18.ps.length - k))) ds ∧ Binds K fd fd18.ps ds := by
  have e : k = 1 := by simpa [fd18] using hk
  rcases e with rfl
  · exact ⟨Nat.le_refl _, Nat.le_add_right _ _, [], .nil, FunD.bindsN (ps := fd18.ps) (show FunD K fd18.d.name fd18.d.qual fd18.d.params fd18.d.body fd18.d.scope [] [] a fd from F) fun _ _ _ _ _ _ us hl => match us, hl with | [_], _ => rfl⟩
theorem bn19 (K : PySem.W.Frag) (a : Addr) (fd : FuncData) (F : FunD K fd19.d.name fd19.d.qual fd19.d.params fd19.d.body fd19.d.scope (fd19.d.dvs K) [] a fd) (k : Nat) (hk : fd19.ars.contains k = true) : k ≤ fd19.ps.length ∧ fd19.ps.length ≤ k + (fd19.d.dvs K).length ∧ ∃ ds, Vals ((fd19.d.dvs K).drop ((fd19.d.dvs K).length - (fd19.ps.length - k))) ds ∧ Binds K fd fd19.ps ds := by
  have e : k = 2 := by simpa [fd19] using hk
  rcases e with rfl
  · exact ⟨Nat.le_refl _, Nat.le_add_right _ _, [], .nil, FunD.bindsN (ps := fd19.ps) (show FunD K fd19.d.name fd19.d.qual fd19.d.params fd19.d.body fd19.d.scope [] [] a fd from F) fun _ _ _ _ _ _ us hl => match us, hl with | [_, _], _ => rfl⟩
theorem bn20 (K : PySem.W.Frag) (a : Addr) (fd : FuncData) (F : FunD K fd20.d.name fd20.d.qual fd20.d.params fd20.d.body fd20.d.scope (fd20.d.dvs K) [] a fd) (k : Nat) (hk : fd20.ars.contains k = true) : k ≤ fd20.ps.length ∧ fd20.ps.length ≤ k + (fd20.d.dvs K).length ∧ ∃ ds, Vals ((fd20.d.dvs K).drop ((fd20.d.dvs K).length - (fd20.ps.length - k))) ds ∧ Binds K fd fd20.ps ds := by
  have e : k = 1 := by simpa [fd20] using hk
  rcases e with rfl
  · exact ⟨Nat.le_refl _, Nat.le_add_right _ _, [], .nil, FunD.bindsN (ps := fd20.ps) (show FunD K fd20.d.name fd20.d.qual fd20.d.params fd20.d.body fd20.d.scope [] [] a fd from F) fun _ _ _ _ _ _ us hl => match us, hl with | [_], _ => rfl⟩
theorem bn21 (K : PySem.W.Frag) (a : Addr) (fd : FuncData) (F : FunD K fd21.d.name fd21.d.qual fd21.d.params fd21.d.body fd21.d.scope (fd21.d.dvs K) [] a fd) (k : Nat) (hk : fd21.ars.contains k = true) : k ≤ fd21.ps.length ∧ fd21.ps.length ≤ k + (fd21.d.dvs K).length ∧ ∃ ds, Vals ((fd21.d.dvs K).drop ((fd21.d.dvs K).length - (fd21.ps.length - k))) ds ∧ Binds K fd fd21.ps ds := by
  have e : k = 2 := by simpa [fd21] using hk
  rcases e with rfl
  · exact ⟨Nat.le_refl _, Nat.le_add_right _ _, [], .nil, FunD.bindsN (ps := fd21.ps) (show FunD K fd21.d.name fd21.d.qual fd21.d.params fd21.d.body fd21.d.scope [] [] a fd from F) fun _ _ _ _ _ _ us hl => match us, hl with | [_, _], _ => rfl⟩
theorem bn22 (K : PySem.W.Frag) (a : Addr) (fd : FuncData) (F : FunD K fd22.d.name fd22.d.qual fd22.d.params fd22.d.body fd22.d.scope (fd22.d.dvs K) [] a fd) (k : Nat) (hk : fd22.ars.contains k = true) : k ≤ fd22.ps.length ∧ fd22.ps.length ≤ k + (fd22.d.dvs K).length ∧ ∃ ds, Vals ((fd22.d.dvs K).drop ((fd22.d.dvs K).length - (fd22.ps.length - k))) ds ∧ Binds K fd fd22.ps ds := by
  have e : k = 2 := by simpa [fd22] using hk
  rcases e with rfl
  · exact ⟨Nat.le_refl _, Nat.le_add_right _ _, [], .nil, FunD.bindsN (ps := fd22.ps) (show FunD K fd22.d.name fd22.d.qual fd22.d.params fd22.d.body fd22.d.scope [] [] a fd from F) fun _ _ _ _ _ _ us hl => match us, hl with | [_, _], _ => rfl⟩
theorem bn23 (K : PySem.W.Frag) (a : Addr) (fd : FuncData) (F : FunD K fd23.d.name fd23.d.qual fd23.d.params fd23.d.body fd23.d.scope (fd23.d.dvs K) [] a fd) (k : Nat) (hk : fd23.ars.contains k = true) : k ≤ fd23.ps.length ∧ fd23.ps.length ≤ k + (fd23.d.dvs K).length ∧ ∃ ds, Vals ((fd23.d.dvs K).drop ((fd23.d.dvs K).length - (fd23.ps.length - k))) ds ∧ Binds K fd fd23.ps ds := by
  have e : k = 1 := by simpa [fd23] using hk
  rcases e with rfl
  · exact ⟨Nat.le_refl _, Nat.le_add_right _ _, [], .nil, FunD.bindsN (ps := fd23.ps) (show FunD K fd23.d.name fd23.d.qual fd23.d.params fd23.d.body fd23.d.scope [] [] a fd from F) fun _ _ _ _ _ _ us hl => match us, hl with | [_], _ => rfl⟩
theorem bn24 (K : PySem.W.Frag) (a : Addr) (fd : FuncData) (F : FunD K fd24.d.name fd24.d.qual fd24.d.params fd24.d.body fd24.d.scope (fd24.d.dvs K) [] a fd) (k : Nat) (hk : fd24.ars.contains k = true) : k ≤ fd24.ps.length ∧ fd24.ps.length ≤ k + (fd24.d.dvs K).length ∧ ∃ ds, Vals ((fd24.d.dvs K).drop ((fd24.d.dvs K).length - (fd24.ps.length - k))) ds ∧ Binds K fd fd24.ps ds := by
  have e : k = 2 := by simpa [fd24] using hk
  rcases e with rfl
  · exact ⟨Nat.le_refl _, Nat.le_add_right _ _, [], .nil, FunD.bindsN (ps := fd24.ps) (show FunD K fd24.d.name fd24.d.qual fd24.d.params fd24.d.body fd24.d.scope [] [] a fd from F) fun _ _ _ _ _ _ us hl => match us, hl with | [_, _], _ => rfl⟩
theorem bn25 (K : PySem.W.Frag) (a : Addr) (fd : FuncData) (F : FunD K fd25.d.name fd25.d.qual fd25.d.params fd25.d.body fd25.d.scope (fd25.d.dvs K) [] a fd) (k : Nat) (hk : fd25.ars.contains k = true) : k ≤ fd25.ps.length ∧ fd25.ps.length ≤ k + (fd25.d.dvs K).length ∧ ∃ ds, Vals ((fd25.d.dvs K).drop ((fd25.d.dvs K).length - (fd25.ps.length - k))) ds ∧ Binds K fd fd25.ps ds := by
  have e : k = 2 := by simpa [fd25] using hk
  rcases e with rfl
  · obtain ⟨ds, h1, h2⟩ := FunD.binds1 (ps := fd25.ps) F 2 1 (fun q => by cases q) rfl (fun T kV doc pm an cdv ct us its hl hi => match us, its, hl, hi with | [_, _], [_], _, _ => ⟨_, rfl, rfl⟩)
    exact ⟨by decide, Nat.le_of_ble_eq_true rfl, ds, h1, h2⟩
theorem bn26 (K : PySem.W.Frag) (a : Addr) (fd : FuncData) (F : FunD K fd26.d.name fd26.d.qual fd26.d.params fd26.d.body fd26.d.scope (fd26.d.dvs K) [] a fd) (k : Nat) (hk : fd26.ars.contains k = true) : k ≤ fd26.ps.length ∧ fd26.ps.length ≤ k + (fd26.d.dvs K).length ∧ ∃ ds, Vals ((fd26.d.dvs K).drop ((fd26.d.dvs K).length - (fd26.ps.length - k))) ds ∧ Binds K fd fd26.ps ds := by
  have e : k = 2 := by simpa [fd26] using hk
  rcases e with rfl
  · exact ⟨Nat.le_refl _, Nat.le_add_right _ _, [], .nil, FunD.bindsN (ps := fd26.ps) (show FunD K fd26.d.name fd26.d.qual fd26.d.params fd26.d.body fd26.d.scope [] [] a fd from F) fun _ _ _ _ _ _ us hl => match us, hl with | [_, _], _ => rfl⟩
theorem bn27 (K : PySem.W.Frag) (a : Addr) (fd : FuncData) (F : FunD K fd27.d.name fd27.d.qual fd27.d.params fd27.d.body fd27.d.scope (fd27.d.dvs K) [] a fd) (k : Nat) (hk : fd27.ars.contains k = true) : k ≤ fd27.ps.length ∧ fd27.ps.length ≤ k + (fd27.d.dvs K).length ∧ ∃ ds, Vals ((fd27.d.dvs K).drop ((fd27.d.dvs K).length - (fd27.ps.length - k))) ds ∧ Binds K fd fd27.ps ds := by
  have e : k = 2 := by simpa [fd27] using hk
  rcases e with rfl
  · exact ⟨Nat.le_refl _, Nat.le_add_right _ _, [], .nil, FunD.bindsN (ps := fd27.ps) (show FunD K fd27.d.name fd27.d.qual fd27.d.params fd27.d.body fd27.d.scope [] [] a fd from F) fun _ _ _ _ _ _ us hl => match us, hl with | [_, _], _ => rfl⟩
theorem bn28 (K : PySem.W.Frag) (a : Addr) (fd : FuncData) (F : FunD K fd28.d.name fd28.d.qual fd28.d.params fd28.d.body fd28.d.scope (fd28.d.dvs K) [] a fd) (k : Nat) (hk : fd28.ars.contains k = true) : k ≤ fd28.ps.length ∧ fd28.ps.length ≤ k + (fd28.d.dvs K).length ∧ ∃ ds, Vals ((fd28.d.dvs K).drop ((fd28.d.dvs K).length - (fd28.ps.length - k))) ds ∧ Binds K fd fd28.ps ds := by
  have e : k = 2 := by simpa [fd28] using hk
  rcases e with rfl
  · exact ⟨Nat.le_refl _, Nat.le_add_right _ _, [], .nil, FunD.bindsN (ps := fd28.ps) (show FunD K fd28.d.name fd28.d.qual fd28.d.params fd28.d.body fd28.d.scope [] [] a fd from F) fun _ _ _ _ _ _ us hl => match us, hl with | [_, _], _ => rfl⟩
theorem bn29 (K : PySem.W.Frag) (a : Addr) (fd : FuncData) (F : FunD K fd29.d.name fd29.d.qual fd29.d.params fd29.d.body fd29.d.scope (fd29.d.dvs K) [] a fd) (k : Nat) (hk : fd29.ars.contains k = true) : k ≤ fd29.ps.length ∧ fd29.ps.length ≤ k + (fd29.d.dvs K).length ∧ ∃ ds, Vals ((fd29.d.dvs K).drop ((fd29.d.dvs K).length - (fd29.ps.length - k))) ds ∧ Binds K fd fd29.ps ds := by
  have e : k = 2 := by simpa [fd29] using hk
  rcases e with rfl
  · exact ⟨Nat.le_refl _, Nat.le_add_right _ _, [], .nil, FunD.bindsN (ps := fd29.ps) (show FunD K fd29.d.name fd29.d.qual fd29.d.params fd29.d.body fd29.d.scope [] [] a fd from F) fun _ _ _ _ _ _ us hl => match us, hl with | [_, _], _ => rfl⟩
theorem bn30 (K : PySem.W.Frag) (a : Addr) (fd : FuncData) (F : FunD K fd30.d.name fd30.d.qual fd30.d.params fd30.d.body fd30.d.scope (fd30.d.dvs K) [] a fd) (k : Nat) (hk : fd30.ars.contains k = true) : k ≤ fd30.ps.length ∧ fd30.ps.length ≤ k + (fd30.d.dvs K).length ∧ ∃ ds, Vals ((fd30.d.dvs K).drop ((fd30.d.dvs K).length - (fd30.ps.length - k))) ds ∧ Binds K fd fd30.ps ds := by
  have e : k = 2 := by simpa [fd30] using hk
  rcases e with rfl
  · exact ⟨Nat.le_refl _, Nat.le_add_right _ _, [], .nil, FunD.bindsN (ps := fd30.ps) (show FunD K fd30.d.name fd30.d.qual fd30.d.params fd30.d.body fd30.d.scope [] [] a fd from F) fun _ _ _ _ _ _ us hl => match us, hl with | [_, _], _ => rfl⟩
theorem bn31 (K : PySem.W.Frag) (a : Addr) (fd : FuncData) (F : FunD K fd31.d.name fd31.d.qual fd31.d.params fd31.d.body fd31.d.scope (fd31.d.dvs K) [] a fd) (k : Nat) (hk : fd31.ars.contains k = true) : k ≤ fd31.ps.length ∧ fd31.ps.length ≤ k + (fd31.d.dvs K).length ∧ ∃ ds, Vals ((fd31.d.dvs K).drop ((fd31.d.dvs K).length - (fd31.ps.length - k))) ds ∧ Binds K fd fd31.ps ds := by
  have e : k = 2 := by simpa [fd31] using hk
  rcases e with rfl
  · exact ⟨Nat.le_refl _, Nat.le_add_right _ _, [], .nil, FunD.bindsN (ps := fd31.ps) (show FunD K fd31.d.name fd31.d.qual fd31.d.params fd31.d.body fd31.d.scope [] [] a fd from F) fun _ _ _ _ _ _ us hl => match us, hl with | [_, _], _ => rfl⟩
theorem bn32 (K : PySem.W.Frag) (a : Addr) (fd : FuncData) (F : FunD K fd32.d.name fd32.d.qual fd32.d.params fd32.d.body fd32.d.scope (fd32.d.dvs K) [] a fd) (k : Nat) (hk : fd32.ars.contains k = true) : k ≤ fd32.ps.length ∧ fd32.ps.length ≤ k + (fd32.d.dvs K).length ∧ ∃ ds, Vals ((fd32.d.dvs K).drop ((fd32.d.dvs K).length - (fd32.ps.length - k))) ds ∧ Binds K fd fd32.ps ds := by
  have e : k = 1 := by simpa [fd32] using hk
  rcases e with rfl
  · exact ⟨Nat.le_refl _, Nat.le_add_right _ _, [], .nil, FunD.bindsN (ps := fd32.ps) (show FunD K fd32.d.name fd32.d.qual fd32.d.params fd32.d.body fd32.d.scope [] [] a fd from F) fun _ _ _ _ _ _ us hl => match us, hl with | [_], _ => rfl⟩
theorem bn33 (K : PySem.W.Frag) (a : Addr) (fd : FuncData) (F : FunD K fd33.d.name fd33.d.qual fd33.d.params fd33.d.body fd33.d.scope (fd33.d.dvs K) [] a fd) (k : Nat) (hk : fd33.ars.contains k = true) : k ≤ fd33.ps.length ∧ fd33.ps.length ≤ k + (fd33.d.dvs K).length ∧ ∃ ds, Vals ((fd33.d.dvs K).drop ((fd33.d.dvs K).length - (fd33.ps.length - k))) ds ∧ Binds K fd fd33.ps ds := by
  have e : k = 2 ∨ k = 3 := by simpa [fd33] using hk
  rcases e with rfl | rfl
  · obtain ⟨ds, h1, h2⟩ := FunD.binds1 (ps := fd33.ps) F 2 0 (fun q => by cases q) rfl (fun T kV doc pm an cdv ct us its hl hi => match us, its, hl, hi with | [_, _], [_], _, _ => ⟨_, rfl, rfl⟩)
    exact ⟨by decide, Nat.le_of_ble_eq_true rfl, ds, h1, h2⟩
  · obtain ⟨ds, h1, h2⟩ := FunD.binds1 (ps := fd33.ps) F 3 1 (fun q => by cases q) rfl (fun T kV doc pm an cdv ct us its hl hi => match us, its, hl, hi with | [_, _, _], [_], _, _ => ⟨_, rfl, rfl⟩)
    exact ⟨by decide, Nat.le_of_ble_eq_true rfl, ds, h1, h2⟩
theorem bn34 (K : PySem.W.Frag) (a : Addr) (fd : FuncData) (F : FunD K fd34.d.name fd34.d.qual fd34.d.params fd34.d.body fd34.d.scope (fd34.d.dvs K) [] a fd) (k : Nat) (hk : fd34.ars.contains k = true) : k ≤ fd34.ps.length ∧ fd34.ps.length ≤ k + (fd34.d.dvs K).length ∧ ∃ ds, Vals ((fd34.d.dvs K).drop ((fd34.d.dvs K).length - (fd34.ps.length - k))) ds ∧ Binds K fd fd34.ps ds := by
  have e : k = 2 := by simpa [fd34] using hk
  rcases e with rfl
  · exact ⟨Nat.le_refl _, Nat.le_add_right _ _, [], .nil, FunD.bindsN (ps := fd34.ps) (show FunD K fd34.d.name fd34.d.qual fd34.d.params fd34.d.body fd34.d.scope [] [] a fd from F) fun _ _ _ _ _ _ us hl => match us, hl with | [_, _], _ => rfl⟩
theorem bn35 (K : PySem.W.Frag) (a : Addr) (fd : FuncData) (F : FunD K fd35.d.name fd35.d.qual fd35.d.params fd35.d.body fd35.d.scope (fd35.d.dvs K) [] a fd) (k : Nat) (hk : fd35.ars.contains k = true) : k ≤ fd35.ps.length ∧ fd35.ps.length ≤ k + (fd35.d.dvs K).length ∧ ∃ ds, Vals ((fd35.d.dvs K).drop ((fd35.d.dvs K).length - (fd35.ps.length - k))) ds ∧ Binds K fd fd35.ps ds := by
  have e : k = 2 := by simpa [fd35] using hk
  rcases e with rfl
  · exact ⟨Nat.le_refl _, Nat.le_add_right _ _, [], .nil, FunD.bindsN (ps := fd35.ps) (show FunD K fd35.d.name fd35.d.qual fd35.d.params fd35.d.body fd35.d.scope [] [] a fd from F) fun _ _ _ _ _ _ us hl => match us, hl with | [_, _], _ => rfl⟩
theorem bn36 (K : PySem.W.Frag) (a : Addr) (fd : FuncData) (F : FunD K fd36.d.name fd36.d.qual fd36.d.params fd36.d.body fd36.d.scope (fd36.d.dvs K) [] a fd) (k : Nat) (hk : fd36.ars.contains k = true) : k ≤ fd36.ps.length ∧ fd36.ps.length ≤ k + (fd36.d.dvs K).length ∧ ∃ ds, Vals ((fd36.d.dvs K).drop ((fd36.d.dvs K).length - (fd36.ps.length - k))) ds ∧ Binds K fd fd36.ps ds := by
  have e : k = 2 := by simpa [fd36] using hk
  rcases e with rfl
  · exact ⟨Nat.le_refl _, Nat.le_add_right _ _, [], .nil, FunD.bindsN (ps := fd36.ps) (show FunD K fd36.d.name fd36.d.qual fd36.d.params fd36.d.body fd36.d.scope [] [] a fd from F) fun _ _ _ _ _ _ us hl => match us, hl with | [_, _], _ => rfl⟩
theorem bn37 (K : PySem.W.Frag) (a : Addr) (fd : FuncData) (F : FunD K fd37.d.name fd37.d.qual fd37.d.params fd37.d.body fd37.d.scope (fd37.d.dvs K) [] a fd) (k : Nat) (hk : fd37.ars.contains k = true) : k ≤ fd37.ps.length ∧ fd37.ps.length ≤ k + (fd37.d.dvs K).length ∧ ∃ ds, Vals ((fd37.d.dvs K).drop ((fd37.d.dvs K).length - (fd37.ps.length - k))) ds ∧ Binds K fd fd37.ps ds := by
  have e : k = 2 := by simpa [fd37] using hk
  rcases e with rfl
  · exact ⟨Nat.le_refl _, Nat.le_add_right _ _, [], .nil, FunD.bindsN (ps := fd37.ps) (show FunD K fd37.d.name fd37.d.qual fd37.d.params fd37.d.body fd37.d.scope [] [] a fd from F) fun _ _ _ _ _ _ us hl => match us, hl with | [_, _], _ => rfl⟩
theorem bn38 (K : PySem.W.Frag) (a : Addr) (fd : FuncData) (F : FunD K fd38.d.name fd38.d.qual fd38.d.params fd38.d.body fd38.d.scope (fd38.d.dvs K) [] a fd) (k : Nat) (hk : fd38.ars.contains k = true) : k ≤ fd38.ps.length ∧ fd38.ps.length ≤ k + (fd38.d.dvs K).length ∧ ∃ ds, Vals ((fd38.d.dvs K).drop ((fd38.d.dvs K).length - (fd38.ps.length - k))) ds ∧ Binds K fd fd38.ps ds := by
  have e : k = 2 := by simpa [fd38] using hk
  rcases e with rfl
  · exact ⟨Nat.le_refl _, Nat.le_add_right _ _, [], .nil, FunD.bindsN (ps := fd38.ps) (show FunD K fd38.d.name fd38.d.qual fd38.d.params fd38.d.body fd38.d.scope [] [] a fd from F) fun _ _ _ _ _ _ us hl => match us, hl with | [_, _], _ => rfl⟩
theorem bn39 (K : PySem.W.Frag) (a : Addr) (fd : FuncData) (F : FunD K fd39.d.name fd39.d.qual fd39.d.params fd39.d.body fd39.d.scope (fd39.d.dvs K) [] a fd) (k : Nat) (hk : fd39.ars.contains k = true) : k ≤ fd39.ps.length ∧ fd39.ps.length ≤ k + (fd39.d.dvs K).length ∧ ∃ ds, Vals ((fd39.d.dvs K).drop ((fd39.d.dvs K).length - (fd39.ps.length - k))) ds ∧ Binds K fd fd39.ps ds := by
  have e : k = 2 := by simpa [fd39] using hk
  rcases e with rfl
  · exact ⟨Nat.le_refl _, Nat.le_add_right _ _, [], .nil, FunD.bindsN (ps := fd39.ps) (show FunD K fd39.d.name fd39.d.qual fd39.d.params fd39.d.body fd39.d.scope [] [] a fd from F) fun _ _ _ _ _ _ us hl => match us, hl with | [_, _], _ => rfl⟩
theorem bn40 (K : PySem.W.Frag) (a : Addr) (fd : FuncData) (F : FunD K fd40.d.name fd40.d.qual fd40.d.params fd40.d.body fd40.d.scope (fd40.d.dvs K) [] a fd) (k : Nat) (hk : fd40.ars.contains k = true) : k ≤ fd40.ps.length ∧ fd40.ps.length ≤ k + (fd40.d.dvs K).length ∧ ∃ ds, Vals ((fd40.d.dvs K).drop ((fd40.d.dvs K).length - (fd40.ps.length - k))) ds ∧ Binds K fd fd40.ps ds := by
  have e : k = 1 := by simpa [fd40] using hk
  rcases e with rfl
  · exact ⟨Nat.le_refl _, Nat.le_add_right _ _, [], .nil, FunD.bindsN (ps := fd40.ps) (show FunD K fd40.d.name fd40.d.qual fd40.d.params fd40.d.body fd40.d.scope [] [] a fd from F) fun _ _ _ _ _ _ us hl => match us, hl with | [_], _ => rfl⟩
theorem bnd : BndOk table := fun i d h K a fd F k hk => match i, h with
  | 0, h => by cases (show some fd0 = some d from h); exact bn0 K a fd F k hk
  | 1, h => by cases (show some fd1 = some d from h); exact bn1 K a fd F k hk
  | 2, h => by cases (show some fd2 = some d from h); exact bn2 K a fd F k hk
  | 3, h => by cases (show some fd3 = some d from h); exact bn3 K a fd F k hk
  | 4, h => by cases (show some fd4 = some d from h); exact bn4 K a fd F k hk
  | 5, h => by cases (show some fd5 = some d from h); exact bn5 K a fd F k hk
  | 6, h => by cases (show some fd6 = some d from h); exact bn6 K a fd F k hk
  | 7, h => by cases (show some fd7 = some d from h); exact bn7 K a fd F k hk
  | 8, h => by cases (show some fd8 = some d from h); exact bn8 K a fd F k hk
  | 9, h => by cases (show some fd9 = some d from h); exact bn9 K a fd F k hk
  | 10, h => by cases (show some fd10 = some d from h); exact bn10 K a fd F k hk
  | 11, h => by cases (show some fd11 = some d from h); exact bn11 K a fd F k hk
  | 12, h => by cases (show some fd12 = some d from h); exact bn12 K a fd F k hk
  | 13, h => by cases (show some fd13 = some d from h); exact bn13 K a fd F k hk
  | 14, h => by cases (show some fd14 = some d from h); exact bn14 K a fd F k hk
  | 15, h => by cases (show some fd15 = some d from h); exact bn15 K a fd F k hk
  | 16, h => by cases (show some fd16 = some d from h); exact bn16 K a fd F k hk
  | 17, h => by cases (show some fd17 = some d from h); exact bn17 K a fd F k hk
  | 18, h => by cases (show some fd18 = some d from h); exact bn18 K a fd F k hk
  | 19, h => by cases (show some fd19 = some d from h); exact bn19 K a fd F k hk
  | 20, h => by cases (show some fd20 = some d from h); exact bn20 K a fd F k hk
  | 21, h => by cases (show some fd21 = some d from h); exact bn21 K a fd F k hk
  | 22, h => by cases (show some fd22 = some d from h); exact bn22 K a fd F k hk
  | 23, h => by cases (show some fd23 = some d from h); exact bn23 K a fd F k hk
  | 24, h => by cases (show some fd24 = some d from h); exact bn24 K a fd F k hk
  | 25, h => by cases (show some fd25 = some d from h); exact bn25 K a fd F k hk
  | 26, h => by cases (show some fd26 = some d from h); exact bn26 K a fd F k hk
  | 27, h => by cases (show some fd27 = some d from h); exact bn27 K a fd F k hk
  | 28, h => by cases (show some fd28 = some d from h); exact bn28 K a fd F k hk
  | 29, h => by cases (show some fd29 = some d from h); exact bn29 K a fd F k hk
  | 30, h => by cases (show some fd30 = some d from h); exact bn30 K a fd F k hk
  | 31, h => by cases (show some fd31 = some d from h); exact bn31 K a fd F k hk
  | 32, h => by cases (show some fd32 = some d from h); exact bn32 K a fd F k hk
  | 33, h => by cases (show some fd33 = some d from h); exact bn33 K a fd F k hk
  | 34, h => by cases (show some fd34 = some d from h); exact bn34 K a fd F k hk
  | 35, h => by cases (show some fd35 = some d from h); exact bn35 K a fd F k hk
  | 36, h => by cases (show some fd36 = some d from h); exact bn36 K a fd F k hk
  | 37, h => by cases (show some fd37 = some d from h); exact bn37 K a fd F k hk
  | 38, h => by cases (show some fd38 = some d from h); exact bn38 K a fd F k hk
  | 39, h => by cases (show some fd39 = some d from h); exact bn39 K a fd F k hk
  | 40, h => by cases (show some fd40 = some d from h); exact bn40 K a fd F k hk
  | n + 41, h => by cases h
abbrev R : PySem.W.OpenRow := PySem.W.OpenLaw.row PySem.Challenge.rw_matchroots_k71_whole_mixed_lots
def fn : List He.DefD := table.defs.map (·.d)
abbrev hk : PySem.W.Hook := hookM 5 fn (ckB table)
def ob (s : PySem.W.SharedT) : He.AlD × Bool := obM 5 fn (ckB table) (HandSHeadRun.getT s)
theorem ob_eq (s : PySem.W.SharedT) : ob s = hk.obs s.abs := obM_eq (HandSHeadRun.getT_eq s)
def nm0 : List PySem.Str := ["gcd", "_wall", "MatchError", "BadNumber", "BadRow", "BadItem", "BadSizes", "is_integer", "is_count", "is_row", "power_of", "Ratio", "ratio_power", "is_number", "plain_ratio", "ratio_of", "need_numbers", "without_zeros", "part_at", "numbers_sum", "numbers_less", "numbers_times", "Poly", "value_at", "partings", "weighed", "need_poly_size", "charlier_sum", "charlier_of", "MOST_THINGS"]
def nm1 : List PySem.Str := ["need_sizes", "product_of", "mixed_lots", "_law_pen", "_law_draw", "_law_shuffled", "_law_listed", "_law_partings"]
theorem run (w : World) : HandSHeadRun.RunEqI R (PySem.W.view R.prog [0, 45]) hk ob 12000 (nm0 ++ nm1) w := by
  unfold HandSHeadRun.RunEqI
  kernel_rfl
end Mi.Law

set_option Elab.async false
set_option linter.all false
set_option maxRecDepth 100000
set_option maxHeartbeats 4000000
/-! Pure: the pen. -/
namespace Mi
def kCells : List Nat := [99, 101, 108, 108, 115]
def kAt : List Nat := [97, 116]
def kDigits : List Nat := [100, 105, 103, 105, 116, 115]
def kCount : List Nat := [99, 111, 117, 110, 116]
def kFold : List Nat := [102, 111, 108, 100]
def penK (cells : List Int) (a d c f : Int) : Kv := [(kCells, .lst (cells.map .int)), (kAt, .int a), (kDigits, .int d), (kCount, .int c), (kFold, .int f)]
def bdDraw : Sms := .cons (.dset 0 [99, 111, 117, 110, 116] (.bin .add (.dget (.var 0) [99, 111, 117, 110, 116]) (.int 1))) (.cons (.iff (.and (.cons (.cmp .eq (.dget (.var 0) [100, 105, 103, 105, 116, 115]) (.int 0)) (.cons (.cmp .lt (.dget (.var 0) [97, 116]) (.len (.ex (.dget (.var 0) [99, 101, 108, 108, 115])))) .nil))) (.cons (.asg 3 (.idx (.ex (.dget (.var 0) [99, 101, 108, 108, 115])) (.dget (.var 0) [97, 116]))) (.cons (.dset 0 [97, 116] (.bin .add (.dget (.var 0) [97, 116]) (.int 1))) (.cons (.iff (.cmp .ge (.var 3) (.bin .pow (.int 10) (.int 18))) (.cons (.dset 0 [100, 105, 103, 105, 116, 115] (.bin .sub (.var 3) (.bin .pow (.int 10) (.int 18)))) .nil) (.cons (.dset 0 [102, 111, 108, 100] (.bin .mod (.intOf (.bin .add (.bin .mul (.dget (.var 0) [102, 111, 108, 100]) (.int 69069)) (.var 3))) (.int 2147483587))) .nil)) .nil))) (.nil)) (.cons (.iff (.cmp .gt (.dget (.var 0) [100, 105, 103, 105, 116, 115]) (.int 0)) (.cons (.asg 4 (.bin .mod (.intOf (.dget (.var 0) [100, 105, 103, 105, 116, 115])) (.var 1))) (.cons (.dset 0 [100, 105, 103, 105, 116, 115] (.bin .fdiv (.dget (.var 0) [100, 105, 103, 105, 116, 115]) (.var 1))) (.cons (.ret (.var 4)) .nil))) (.nil)) (.cons (.asg 2 (.bin .add (.bin .add (.dget (.var 0) [102, 111, 108, 100]) (.bin .mul (.dget (.var 0) [99, 111, 117, 110, 116]) (.int 7907))) (.int 37))) (.cons (.ret (.bin .mod (.bin .fdiv (.intOf (.bin .mod (.bin .pow (.var 2) (.int 17)) (.int 2305843009213693951))) (.int 128)) (.var 1))) .nil))))
/-- the pen in the store: bounds -/
structure PenOk (a d c f : Int) : Prop where
  a0 : 0 ≤ a
  d0 : 0 ≤ d
  c0 : 0 ≤ c
  c1 : c < 1000000000
  f0 : 0 ≤ f
  f1 : f < 2147483587
theorem getN_setN {α : Type} : ∀ {l : List α} {n : Nat} {a b : α}, getN l n = some b → getN (setN l n a) n = some a
  | _ :: _, 0, _, _, _ => rfl
  | x :: l, n + 1, a, b, h => getN_setN (l := l) (n := n) h
theorem setN_same {α : Type} : ∀ {l : List α} {n : Nat} {b : α}, getN l n = some b → setN l n b = l
  | _ :: _, 0, _, h => by cases h; rfl
  | x :: l, n + 1, b, h => by show x :: setN l n b = _; rw [setN_same (l := l) (n := n) h]
theorem setN_setN {α : Type} : ∀ {l : List α} {n : Nat} {a b : α}, setN (setN l n a) n b = setN l n b
  | [], _, _, _ => rfl
  | _ :: _, 0, _, _ => rfl
  | x :: l, n + 1, a, b => by show x :: setN (setN l n a) n b = _; rw [setN_setN]; rfl
section
variable {G : Ga}
theorem p_cells {cells : List Int} {a d c f : Int} : lookK [99, 101, 108, 108, 115] (penK cells a d c f) = some (.lst (cells.map .int)) := rfl
theorem p_at {cells : List Int} {a d c f : Int} : lookK [97, 116] (penK cells a d c f) = some (.int a) := rfl
theorem p_digits {cells : List Int} {a d c f : Int} : lookK [100, 105, 103, 105, 116, 115] (penK cells a d c f) = some (.int d) := rfl
theorem p_count {cells : List Int} {a d c f : Int} : lookK [99, 111, 117, 110, 116] (penK cells a d c f) = some (.int c) := rfl
theorem p_fold {cells : List Int} {a d c f : Int} : lookK [102, 111, 108, 100] (penK cells a d c f) = some (.int f) := rfl
theorem q_at {cells : List Int} {a d c f x : Int} : putK [97, 116] (.int x) (penK cells a d c f) = penK cells x d c f := rfl
theorem q_digits {cells : List Int} {a d c f x : Int} : putK [100, 105, 103, 105, 116, 115] (.int x) (penK cells a d c f) = penK cells a x c f := rfl
theorem q_count {cells : List Int} {a d c f x : Int} : putK [99, 111, 117, 110, 116] (.int x) (penK cells a d c f) = penK cells a d x f := rfl
theorem q_fold {cells : List Int} {a d c f x : Int} : putK [102, 111, 108, 100] (.int x) (penK cells a d c f) = penK cells a d c x := rfl
theorem pen_len {cells : List Int} {a d c f : Int} : (penK cells a d c f).length < SZ := by show 5 < 16777216; decide
/-- reading a field of the pen -/
theorem e_dget {v : Env} {S : Sto} {n : Nat} {kv : Kv} {k : List Nat} {d : D} {i : Nat} (hv : getN v i = some (.va (.dr n))) (hS : getN S n = some kv) (hk : lookK k kv = some d) : ev G (.dget (.var i) k) v S = .ok d S := by
  rw [ev, ev, hv]; simp only [R.bind, hS, Option.bind_some, hk]
theorem e_int {v : Env} {S : Sto} {n : Int} : ev G (.int n) v S = .ok (.int n) S := by rw [ev]
theorem e_var {v : Env} {S : Sto} {i : Nat} {d : D} (h : getN v i = some (.va d)) : ev G (.var i) v S = .ok d S := by rw [ev, h]
theorem e_bin {o : Bi} {a b : Ex} {v : Env} {S S1 S2 : Sto} {x y z : D} (ha : ev G a v S = .ok x S1) (hb : ev G b v S1 = .ok y S2) (hz : binop G o x y S2 = .ok z S2) : ev G (.bin o a b) v S = .ok z S2 := by
  rw [ev, ha]; simp only [R.bind, hb, hz]
theorem b_add {i j : Int} {S : Sto} : binop G .add (.int i) (.int j) S = .ok (.int (i + j)) S := rfl
theorem b_sub {i j : Int} {S : Sto} : binop G .sub (.int i) (.int j) S = .ok (.int (i - j)) S := rfl
theorem b_mul {i j : Int} {S : Sto} (h : mulOk i j = true) : binop G .mul (.int i) (.int j) S = .ok (.int (i * j)) S := by
  show (match (if mulOk i j = true then some (D.int (i * j)) else none) with | some d => R.ok d S | none => .bad) = _
  rw [if_pos h]
theorem b_fdiv {i j : Int} {S : Sto} (h : divOk j = true) : binop G .fdiv (.int i) (.int j) S = .ok (.int (i.fdiv j)) S := by
  show (match (if divOk j = true then some (D.int (i.fdiv j)) else none) with | some d => R.ok d S | none => .bad) = _
  rw [if_pos h]
theorem b_mod {i j : Int} {S : Sto} (h : j ≠ 0) : binop G .mod (.int i) (.int j) S = .ok (.int (i.fmod j)) S := by
  show (match (if j ≠ 0 then some (D.int (i.fmod j)) else none) with | some d => R.ok d S | none => .bad) = _
  rw [if_pos h]
theorem b_pow {i j : Int} {S : Sto} (h : powOk i j = true) : binop G .pow (.int i) (.int j) S = .ok (.int (i ^ j.toNat)) S := by
  show (match (if powOk i j = true then some (D.int (i ^ j.toNat)) else none) with | some d => R.ok d S | none => .bad) = _
  rw [if_pos h]
theorem x_dset {v : Env} {S S1 : Sto} {n i : Nat} {k : List Nat} {e : Ex} {kv : Kv} {d : D} (hv : getN v i = some (.va (.dr n))) (he : ev G e v S = .ok d S1) (hS : getN S1 n = some kv) (hl : kv.length < SZ) : xs1 G (.dset i k e) v S = .ok (.nx v) (setN S1 n (putK k d kv)) := by
  rw [xs1, hv]
  simp only [he, R.bind, hS]
  rw [if_pos hl]
theorem x_cons {s : Sm} {ss : Sms} {v v' : Env} {S S' : Sto} (h : xs1 G s v S = .ok (.nx v') S') : xss G (.cons s ss) v S = xss G ss v' S' := by
  rw [xss, h]; rfl
theorem x_asg {i : Nat} {e : Ex} {v : Env} {S S' : Sto} {d : D} (h : ev G e v S = .ok d S') : xs1 G (.asg i e) v S = .ok (.nx (setN v i (.va d))) S' := by
  rw [xs1, h]; rfl
theorem x_ret {e : Ex} {ss : Sms} {v : Env} {S S' : Sto} {d : D} (h : ev G e v S = .ok d S') : xss G (.cons (.ret e) ss) v S = .ok (.rt d) S' := by
  rw [xss, xs1, h]; rfl
theorem x_iff {c : Ex} {a b : Sms} {v : Env} {S S' : Sto} {t : Bool} (h : ev G c v S = .ok (.bl t) S') : xs1 G (.iff c a b) v S = if t = true then xss G a v S' else xss G b v S' := by
  rw [xs1, h]; rfl
theorem e_intOf {a : Ex} {v : Env} {S S' : Sto} {i : Int} (h : ev G a v S = .ok (.int i) S') : ev G (.intOf a) v S = .ok (.int i) S' := by rw [ev, h]; rfl
theorem e_cmp {o : Cm} {a b : Ex} {v : Env} {S S1 S2 : Sto} {x y : D} {r : Bool} (ha : ev G a v S = .ok x S1) (hb : ev G b v S1 = .ok y S2) (hr : cmpP o x y = some r) : ev G (.cmp o a b) v S = .ok (.bl r) S2 := by
  rw [ev, ha]; simp only [R.bind, hb, cmpD, hr]
theorem c_eq {i j : Int} : cmpP .eq (.int i) (.int j) = some (i == j) := rfl
theorem c_lt {i j : Int} : cmpP .lt (.int i) (.int j) = some (decide (i < j)) := rfl
theorem c_gt {i j : Int} : cmpP .gt (.int i) (.int j) = some (decide (j < i)) := rfl
theorem c_ge {i j : Int} : cmpP .ge (.int i) (.int j) = some (decide (j ≤ i)) := rfl
theorem e_and2 {a b : Ex} {v : Env} {S : Sto} {t u : Bool} (ha : ev G a v S = .ok (.bl t) S) (hb : ev G b v S = .ok (.bl u) S) : ev G (.and (.cons a (.cons b .nil))) v S = .ok (.bl (t && u)) S := by
  rw [ev, evAnd, ha]
  cases t with
  | false => rfl
  | true =>
    simp only [R.bind, asB, if_true]
    rw [evAnd, hb]
    cases u with
    | false => rfl
    | true => simp only [R.bind, asB, if_true]; rw [evAnd]; rfl
theorem e_len {e : Ex} {v : Env} {S S' : Sto} {l : List D} (h : ev G e v S = .ok (.lst l) S') : ev G (.len (.ex e)) v S = .ok (.int l.length) S' := by
  rw [ev, evq, h]; rfl
theorem e_idx {e i : Ex} {v : Env} {S S1 S2 : Sto} {l : List D} {j : Int} {d : D} (h : ev G e v S = .ok (.lst l) S1) (hi : ev G i v S1 = .ok (.int j) S2) (hd : atI l j = some d) : ev G (.idx (.ex e) i) v S = .ok d S2 := by
  rw [ev, evq, h]; simp only [R.bind, hi, hd]
theorem atI_nat {l : List D} {j : Int} (h0 : 0 ≤ j) (h1 : j < l.length) : atI l j = l[j.toNat]? := by
  unfold atI ixN
  rw [if_pos h0, if_pos h1]; rfl
theorem mulOk_l {i j : Int} (h : j.natAbs < 18446744073709551616) : mulOk i j = true := by
  unfold mulOk; simp [h]
theorem pow_big : powOk 10 18 = true := by decide +kernel
theorem ten18 : ((10 : Int) ^ (18 : Int).toNat) = 1000000000000000000 := by decide +kernel
theorem divOk_s {j : Int} (h0 : 1 ≤ j) (h1 : j < 1073741824) : divOk j = true := by
  unfold divOk
  have : j.natAbs < 1073741824 := by omega
  have h2 : j ≠ 0 := by omega
  simp [this, h2]
/-- one draw -/
theorem draw_ok {cells : List Int} {a d c f m : Int} {S : Sto} {n : Nat} (hS : getN S n = some (penK cells a d c f)) (p : PenOk a d c f) (m0 : 1 ≤ m) (m1 : m < 1073741824) :
    ∃ r a' d' f', xss G bdDraw [.va (.dr n), .va (.int m), .un, .un, .un] S = .ok (.rt (.int r)) (setN S n (penK cells a' d' (c + 1) f')) ∧ 0 ≤ r ∧ r < m ∧ 0 ≤ a' ∧ 0 ≤ d' ∧ 0 ≤ f' ∧ f' < 2147483587 := by
  unfold bdDraw
  have h0 : getN ([.va (.dr n), .va (.int m), .un, .un, .un] : Env) 0 = some (.va (.dr n)) := rfl
  rw [x_cons (x_dset h0 (e_bin (e_dget h0 hS p_count) e_int b_add) hS pen_len), q_count]
  have tail : ∀ (S2 : Sto) (v : Env) (a d f : Int), getN v 0 = some (.va (.dr n)) → getN v 1 = some (.va (.int m)) → getN S2 n = some (penK cells a d (c + 1) f) → v.length = 5 → 0 ≤ a → 0 ≤ d → 0 ≤ f → f < 2147483587 →
      ∃ r d', xss G (.cons (.iff (.cmp .gt (.dget (.var 0) [100, 105, 103, 105, 116, 115]) (.int 0)) (.cons (.asg 4 (.bin .mod (.intOf (.dget (.var 0) [100, 105, 103, 105, 116, 115])) (.var 1))) (.cons (.dset 0 [100, 105, 103, 105, 116, 115] (.bin .fdiv (.dget (.var 0) [100, 105, 103, 105, 116, 115]) (.var 1))) (.cons (.ret (.var 4)) .nil))) (.nil)) (.cons (.asg 2 (.bin .add (.bin .add (.dget (.var 0) [102, 111, 108, 100]) (.bin .mul (.dget (.var 0) [99, 111, 117, 110, 116]) (.int 7907))) (.int 37))) (.cons (.ret (.bin .mod (.bin .fdiv (.intOf (.bin .mod (.bin .pow (.var 2) (.int 17)) (.int 2305843009213693951))) (.int 128)) (.var 1))) .nil))) v S2 = .ok (.rt (.int r)) (setN S2 n (penK cells a d' (c + 1) f)) ∧ 0 ≤ r ∧ r < m ∧ 0 ≤ d' := by
    intro S2 v a d f hv0 hv1 hS2 hl ha hd hf hf1
    obtain ⟨v0, v1, v2, v3, v4, rfl⟩ : ∃ v0 v1 v2 v3 v4, v = [v0, v1, v2, v3, v4] := by
      match v, hl with
      | [v0, v1, v2, v3, v4], _ => exact ⟨v0, v1, v2, v3, v4, rfl⟩
    have e0 : v0 = .va (.dr n) := Option.some.inj hv0
    have e1 : v1 = .va (.int m) := Option.some.inj hv1
    subst e0 e1
    rw [xss, x_iff (e_cmp (e_dget hv0 hS2 p_digits) e_int c_gt)]
    by_cases z : 0 < d
    · simp only [z, decide_true, if_true]
      refine ⟨d.fmod m, d.fdiv m, ?_, Int.fmod_nonneg_of_pos _ (by omega), Int.fmod_lt_of_pos _ (by omega), ?_⟩
      · rw [x_cons (x_asg (e_bin (e_intOf (e_dget hv0 hS2 p_digits)) (e_var hv1) (b_mod (by omega))))]
        have g0 : getN (setN ([.va (.dr n), .va (.int m), v2, v3, v4] : Env) 4 (.va (.int (d.fmod m)))) 0 = some (.va (.dr n)) := rfl
        have g1 : getN (setN ([.va (.dr n), .va (.int m), v2, v3, v4] : Env) 4 (.va (.int (d.fmod m)))) 1 = some (.va (.int m)) := rfl
        rw [x_cons (x_dset g0 (e_bin (e_dget g0 hS2 p_digits) (e_var g1) (b_fdiv (divOk_s m0 m1))) hS2 pen_len), q_digits, x_ret (e_var (d := .int (d.fmod m)) rfl)]
        rfl
      · exact Int.fdiv_nonneg hd (by omega)
    · simp only [z, decide_false, Bool.false_eq_true, if_false]
      rw [xss]
      show ∃ r d', (xss G _ [.va (.dr n), .va (.int m), v2, v3, v4] S2) = _ ∧ _
      rw [x_cons (x_asg (e_bin (e_bin (e_dget hv0 hS2 p_fold) (e_bin (e_dget hv0 hS2 p_count) e_int (b_mul (mulOk_l (by decide)))) b_add) e_int b_add))]
      have g1 : getN (setN ([.va (.dr n), .va (.int m), v2, v3, v4] : Env) 2 (.va (.int (f + (c + 1) * 7907 + 37)))) 1 = some (.va (.int m)) := rfl
      have g2 : getN (setN ([.va (.dr n), .va (.int m), v2, v3, v4] : Env) 2 (.va (.int (f + (c + 1) * 7907 + 37)))) 2 = some (.va (.int (f + (c + 1) * 7907 + 37))) := rfl
      have hpow : powOk (f + (c + 1) * 7907 + 37) 17 = true := by
        have := p.c0; have := p.c1
        unfold powOk
        have : (f + (c + 1) * 7907 + 37).natAbs < 18446744073709551616 := by omega
        simp [this]
      rw [x_ret (e_bin (e_bin (e_intOf (e_bin (e_bin (e_var g2) e_int (b_pow hpow)) e_int (b_mod (by decide)))) e_int (b_fdiv (by decide +kernel))) (e_var g1) (b_mod (by omega)))]
      refine ⟨(((((f + (c + 1) * 7907 + 37) ^ (17 : Int).toNat).fmod 2305843009213693951).fdiv 128).fmod m), d, ?_, Int.fmod_nonneg_of_pos _ (by omega), Int.fmod_lt_of_pos _ (by omega), hd⟩
      rw [setN_same hS2]
  have hS1 : getN (setN S n (penK cells a d (c + 1) f)) n = some (penK cells a d (c + 1) f) := getN_setN hS
  rw [xss]
  have hlen : (cells.map D.int).length = cells.length := by simp
  rw [x_iff (e_and2 (e_cmp (e_dget h0 hS1 p_digits) e_int c_eq) (e_cmp (e_dget h0 hS1 p_at) (e_len (e_dget h0 hS1 p_cells)) c_lt))]
  by_cases z : (d == 0 && decide (a < (cells.map D.int).length)) = true
  · rw [if_pos z]
    simp only [Bool.and_eq_true, decide_eq_true_eq, beq_iff_eq] at z
    obtain ⟨z1, z2⟩ := z
    obtain ⟨cell, hcell⟩ : ∃ x, cells[a.toNat]? = some x := by
      have h := p.a0
      have : a.toNat < cells.length := by rw [hlen] at z2; omega
      exact ⟨cells[a.toNat], by simp [this]⟩
    have hat : atI (cells.map D.int) a = some (.int cell) := by
      rw [atI_nat p.a0 z2, List.getElem?_map, hcell]; rfl
    rw [x_cons (x_asg (e_idx (e_dget h0 hS1 p_cells) (e_dget h0 hS1 p_at) hat))]
    have g0 : getN (setN ([.va (.dr n), .va (.int m), .un, .un, .un] : Env) 3 (.va (.int cell))) 0 = some (.va (.dr n)) := rfl
    have g3 : getN (setN ([.va (.dr n), .va (.int m), .un, .un, .un] : Env) 3 (.va (.int cell))) 3 = some (.va (.int cell)) := rfl
    rw [x_cons (x_dset g0 (e_bin (e_dget g0 hS1 p_at) e_int b_add) hS1 pen_len), q_at, setN_setN]
    have hS2 : getN (setN S n (penK cells (a + 1) d (c + 1) f)) n = some (penK cells (a + 1) d (c + 1) f) := getN_setN hS
    rw [xss, x_iff (e_cmp (e_var g3) (e_bin e_int e_int (b_pow pow_big)) c_ge), ten18]
    by_cases y : (1000000000000000000 : Int) ≤ cell
    · simp only [y, decide_true, if_true]
      rw [x_cons (x_dset g0 (e_bin (e_var g3) (e_bin e_int e_int (b_pow pow_big)) b_sub) hS2 pen_len), q_digits, setN_setN, ten18, xss]
      have hS3 : getN (setN S n (penK cells (a + 1) (cell - 1000000000000000000) (c + 1) f)) n = some (penK cells (a + 1) (cell - 1000000000000000000) (c + 1) f) := getN_setN hS
      obtain ⟨r, d', e1, e2, e3, e4⟩ := tail _ (setN ([.va (.dr n), .va (.int m), .un, .un, .un] : Env) 3 (.va (.int cell))) (a + 1) (cell - 1000000000000000000) f rfl rfl hS3 rfl (by have := p.a0; omega) (by omega) p.f0 p.f1
      refine ⟨r, a + 1, d', f, ?_, e2, e3, by have := p.a0; omega, e4, p.f0, p.f1⟩
      rw [setN_setN] at e1
      simp only [R.bind, xss]
      exact e1
    · simp only [y, decide_false, Bool.false_eq_true, if_false]
      rw [x_cons (x_dset g0 (e_bin (e_intOf (e_bin (e_bin (e_dget g0 hS2 p_fold) e_int (b_mul (mulOk_l (by decide)))) (e_var g3) b_add)) e_int (b_mod (by decide))) hS2 pen_len), q_fold, setN_setN, xss]
      have hS3 : getN (setN S n (penK cells (a + 1) d (c + 1) ((f * 69069 + cell).fmod 2147483587))) n = some (penK cells (a + 1) d (c + 1) ((f * 69069 + cell).fmod 2147483587)) := getN_setN hS
      have k0 := Int.fmod_nonneg_of_pos (f * 69069 + cell) (b := 2147483587) (by decide)
      have k1 := Int.fmod_lt_of_pos (f * 69069 + cell) (b := 2147483587) (by decide)
      obtain ⟨r, d', e1, e2, e3, e4⟩ := tail _ (setN ([.va (.dr n), .va (.int m), .un, .un, .un] : Env) 3 (.va (.int cell))) (a + 1) d _ rfl rfl hS3 rfl (by have := p.a0; omega) p.d0 k0 k1
      refine ⟨r, a + 1, d', _, ?_, e2, e3, by have := p.a0; omega, e4, k0, k1⟩
      rw [setN_setN] at e1
      simp only [R.bind, xss]
      exact e1
  · rw [if_neg z, xss]
    obtain ⟨r, d', e1, e2, e3, e4⟩ := tail _ ([.va (.dr n), .va (.int m), .un, .un, .un] : Env) a d f rfl rfl hS1 rfl p.a0 p.d0 p.f0 p.f1
    refine ⟨r, a, d', f, ?_, e2, e3, p.a0, e4, p.f0, p.f1⟩
    rw [setN_setN] at e1
    exact e1
def bdPen : Sms := .cons (.asg 1 (.int 0)) (.cons (.for_ (.nm 2) (.seq (.ex (.var 0))) (.cons (.asg 1 (.bin .mod (.intOf (.bin .add (.bin .mul (.var 1) (.int 47)) (.var 2))) (.int 1000000007))) .nil)) (.cons (.ret (.disp [[99, 101, 108, 108, 115], [97, 116], [100, 105, 103, 105, 116, 115], [99, 111, 117, 110, 116], [102, 111, 108, 100]] (.cons (.listOf (.ex (.var 0))) (.cons (.int 0) (.cons (.int 0) (.cons (.int 0) (.cons (.var 1) .nil))))))) .nil))
theorem e_evs_nil {v : Env} {S : Sto} : evs G .nil v S = .ok [] S := by rw [evs]
theorem e_evs {e : Ex} {es : Exs} {v : Env} {S S1 S2 : Sto} {d : D} {l : List D} (h : ev G e v S = .ok d S1) (hs : evs G es v S1 = .ok l S2) : evs G (.cons e es) v S = .ok (d :: l) S2 := by
  rw [evs, h]; simp only [R.bind, hs]
theorem e_listOf {e : Ex} {v : Env} {S S' : Sto} {l : List D} (h : ev G e v S = .ok (.lst l) S') : ev G (.listOf (.ex e)) v S = .ok (.lst l) S' := by
  rw [ev, evq, h]; rfl
theorem pen_for {ns0 : D} : ∀ (ns : List Int) (f : Int) (x : Sl) (S : Sto), 0 ≤ f → f < 1000000007 → ∃ f' x', forL (fun (x : D) (v : Env) (S : Sto) => match bindPt (.nm 2) x v with | some w => xss G (.cons (.asg 1 (.bin .mod (.intOf (.bin .add (.bin .mul (.var 1) (.int 47)) (.var 2))) (.int 1000000007))) .nil) w S | none => R.bad) (ns.map .int) [.va ns0, .va (.int f), x] S = .ok (.nx [.va ns0, .va (.int f'), x']) S ∧ 0 ≤ f' ∧ f' < 1000000007
  | [], f, x, S, h0, h1 => ⟨f, x, rfl, h0, h1⟩
  | n :: ns, f, x, S, h0, h1 => by
    obtain ⟨f', x', e, g0, g1⟩ := pen_for ns ((f * 47 + n).fmod 1000000007) (.va (.int n)) S (Int.fmod_nonneg_of_pos _ (by decide)) (Int.fmod_lt_of_pos _ (by decide))
    refine ⟨f', x', ?_, g0, g1⟩
    rw [List.map_cons, forL]
    show (xss G _ [.va ns0, .va (.int f), .va (.int n)] S).bind _ = _
    rw [x_cons (x_asg (e_bin (e_intOf (e_bin (e_bin (e_var (d := .int f) rfl) e_int (b_mul (mulOk_l (by decide)))) (e_var (d := .int n) rfl) b_add)) e_int (b_mod (by decide)))), xss]
    exact e
theorem pen_ok {ns : List Int} {S : Sto} : ∃ f, xss G bdPen [.va (.lst (ns.map .int)), .un, .un] S = .ok (.rt (.dr S.length)) (S ++ [penK ns 0 0 0 f]) ∧ 0 ≤ f ∧ f < 2147483587 := by
  obtain ⟨f, x, e, h0, h1⟩ := pen_for (G := G) (ns0 := .lst (ns.map .int)) ns 0 .un S (by decide) (by decide)
  refine ⟨f, ?_, h0, by omega⟩
  unfold bdPen
  rw [x_cons (x_asg e_int)]
  have h2 : getN (setN ([.va (.lst (ns.map .int)), .un, .un] : Env) 1 (.va (.int 0))) 0 = some (.va (.lst (ns.map .int))) := rfl
  have hf : xs1 G (.for_ (.nm 2) (.seq (.ex (.var 0))) (.cons (.asg 1 (.bin .mod (.intOf (.bin .add (.bin .mul (.var 1) (.int 47)) (.var 2))) (.int 1000000007))) .nil)) (setN ([.va (.lst (ns.map .int)), .un, .un] : Env) 1 (.va (.int 0))) S = .ok (.nx [.va (.lst (ns.map .int)), .va (.int f), x]) S := by
    rw [xs1, evt, evq, e_var h2]
    exact e
  rw [x_cons hf]
  have hd : ev G (.disp [[99, 101, 108, 108, 115], [97, 116], [100, 105, 103, 105, 116, 115], [99, 111, 117, 110, 116], [102, 111, 108, 100]] (.cons (.listOf (.ex (.var 0))) (.cons (.int 0) (.cons (.int 0) (.cons (.int 0) (.cons (.var 1) .nil)))))) [.va (.lst (ns.map .int)), .va (.int f), x] S = .ok (.dr S.length) (S ++ [penK ns 0 0 0 f]) := by
    rw [ev, e_evs (e_listOf (e_var (d := .lst (ns.map .int)) rfl)) (e_evs e_int (e_evs e_int (e_evs e_int (e_evs (e_var (d := .int f) rfl) e_evs_nil))))]
    rfl
  rw [x_ret hd]
end
end Mi

set_option Elab.async false
set_option linter.all false
set_option maxRecDepth 100000
set_option maxHeartbeats 0
namespace Mi.L71
def bd0 : Sms := .cons (.asg 1 (.call 1 (.cons (.var 0) .nil))) (.cons (.par 7 false (.lst (.nil)) 8 false (.int 7)) (.cons (.for_ (.nm 2) (.rng1 (.bin .add (.int 1) (.call 2 (.cons (.var 1) (.cons (.int 5) .nil))))) (.cons (.asg 9 (.call 2 (.cons (.var 1) (.cons (.bin .add (.int 1) (.min2 (.var 8) (.int 4))) .nil)))) (.cons (.par 7 false (.bin .add (.var 7) (.lst (.cons (.var 9) .nil))) 8 false (.bin .sub (.var 8) (.var 9))) .nil))) (.cons (.asg 3 (.lst (.nil))) (.cons (.for_ (.tp [10, 9]) (.enum (.ex (.var 7))) (.cons (.asg 3 (.bin .add (.var 3) (.bin .mul (.lst (.cons (.var 10) .nil)) (.var 9)))) .nil)) (.cons (.asg 4 (.int 0)) (.cons (.for_ (.nm 5) (.seq (.ex (.call 3 (.cons (.len (.ex (.var 3))) .nil)))) (.cons (.own 11 (.comp (.comp (.idx (.ex (.var 3)) (.var 12)) [12] (.nm 12) (.seq (.ex (.var 10))) .no) [10] (.nm 10) (.seq (.ex (.var 5))) .no)) (.cons (.frz 11) (.cons (.iff (.cmp .eq (.comp (.int 1) [13] (.nm 13) (.seq (.ex (.var 11))) (.yes (.or (.cons (.cmp .lt (.len (.ex (.var 13))) (.int 2)) (.cons (.cmp .lt (.lenSet (.ex (.var 13))) (.len (.ex (.var 13)))) .nil))))) (.lst (.nil))) (.cons (.asg 4 (.bin .add (.var 4) (.int 1))) .nil) (.nil)) .nil)))) (.cons (.asg 6 (.call 4 (.cons (.call 5 (.cons (.var 1) (.cons (.var 7) .nil))) .nil))) (.cons (.iff (.or (.cons (.not (.isI (.var 6) [.int] false)) (.cons (.isI (.var 6) [.bool] false) (.cons (.cmp .ne (.var 6) (.var 4)) .nil)))) (.cons (.ret (.bl false)) .nil) (.nil)) (.cons (.ret (.and (.cons (.cmp .eq (.call 4 (.cons (.call 6 (.cons (.var 1) (.cons (.bin .add (.var 7) (.lst (.cons (.int 0) .nil))) .nil))) .nil)) (.var 6)) (.cons (.cmp .eq (.call 4 (.cons (.tup (.nil)) .nil)) (.int 1)) .nil)))) .nil)))))))))
def ff0 : Fd := ⟨1, 14, [], none, bd0⟩
def bd1 : Sms := .cons (.asg 1 (.int 0)) (.cons (.for_ (.nm 2) (.seq (.ex (.var 0))) (.cons (.asg 1 (.bin .mod (.intOf (.bin .add (.bin .mul (.var 1) (.int 47)) (.var 2))) (.int 1000000007))) .nil)) (.cons (.ret (.disp [[99, 101, 108, 108, 115], [97, 116], [100, 105, 103, 105, 116, 115], [99, 111, 117, 110, 116], [102, 111, 108, 100]] (.cons (.listOf (.ex (.var 0))) (.cons (.int 0) (.cons (.int 0) (.cons (.int 0) (.cons (.var 1) .nil))))))) .nil))
def ff1 : Fd := ⟨1, 3, [], none, bd1⟩
def bd2 : Sms := .cons (.dset 0 [99, 111, 117, 110, 116] (.bin .add (.dget (.var 0) [99, 111, 117, 110, 116]) (.int 1))) (.cons (.iff (.and (.cons (.cmp .eq (.dget (.var 0) [100, 105, 103, 105, 116, 115]) (.int 0)) (.cons (.cmp .lt (.dget (.var 0) [97, 116]) (.len (.ex (.dget (.var 0) [99, 101, 108, 108, 115])))) .nil))) (.cons (.asg 3 (.idx (.ex (.dget (.var 0) [99, 101, 108, 108, 115])) (.dget (.var 0) [97, 116]))) (.cons (.dset 0 [97, 116] (.bin .add (.dget (.var 0) [97, 116]) (.int 1))) (.cons (.iff (.cmp .ge (.var 3) (.bin .pow (.int 10) (.int 18))) (.cons (.dset 0 [100, 105, 103, 105, 116, 115] (.bin .sub (.var 3) (.bin .pow (.int 10) (.int 18)))) .nil) (.cons (.dset 0 [102, 111, 108, 100] (.bin .mod (.intOf (.bin .add (.bin .mul (.dget (.var 0) [102, 111, 108, 100]) (.int 69069)) (.var 3))) (.int 2147483587))) .nil)) .nil))) (.nil)) (.cons (.iff (.cmp .gt (.dget (.var 0) [100, 105, 103, 105, 116, 115]) (.int 0)) (.cons (.asg 4 (.bin .mod (.intOf (.dget (.var 0) [100, 105, 103, 105, 116, 115])) (.var 1))) (.cons (.dset 0 [100, 105, 103, 105, 116, 115] (.bin .fdiv (.dget (.var 0) [100, 105, 103, 105, 116, 115]) (.var 1))) (.cons (.ret (.var 4)) .nil))) (.nil)) (.cons (.asg 2 (.bin .add (.bin .add (.dget (.var 0) [102, 111, 108, 100]) (.bin .mul (.dget (.var 0) [99, 111, 117, 110, 116]) (.int 7907))) (.int 37))) (.cons (.ret (.bin .mod (.bin .fdiv (.intOf (.bin .mod (.bin .pow (.var 2) (.int 17)) (.int 2305843009213693951))) (.int 128)) (.var 1))) .nil))))
def ff2 : Fd := ⟨2, 5, [], none, bd2⟩
def bd3 : Sms := .cons (.asg 1 (.lst (.cons (.tup (.nil)) .nil))) (.cons (.for_ (.nm 2) (.rng1 (.var 0)) (.cons (.own 3 (.lst (.nil))) (.cons (.for_ (.nm 4) (.seq (.ex (.var 1))) (.cons (.for_ (.nm 5) (.rng1 (.len (.ex (.var 4)))) (.cons (.app 3 (.bin .add (.bin .add (.slc (.ex (.var 4)) .no (.yes (.var 5))) (.tup (.cons (.bin .add (.idx (.ex (.var 4)) (.var 5)) (.tup (.cons (.var 2) .nil))) .nil))) (.slc (.ex (.var 4)) (.yes (.bin .add (.var 5) (.int 1))) .no))) .nil)) (.cons (.app 3 (.bin .add (.var 4) (.tup (.cons (.tup (.cons (.var 2) .nil)) .nil)))) .nil))) (.cons (.frz 3) (.cons (.asg 1 (.var 3)) .nil))))) (.cons (.ret (.var 1)) .nil))
def ff3 : Fd := ⟨1, 6, [], none, bd3⟩
def bd4 : Sms := .cons (.exp (.call 7 (.cons (.var 0) .nil))) (.cons (.ret (.fld (.call 8 (.cons (.call 9 (.cons (.comp (.call 10 (.cons (.var 1) .nil)) [1] (.nm 1) (.seq (.ex (.var 0))) .no) .nil)) .nil)) 3)) .nil)
def ff4 : Fd := ⟨1, 2, [], none, bd4⟩
def bd5 : Sms := .cons (.ret (.ife (.cmp .eq (.call 2 (.cons (.var 0) (.cons (.int 2) .nil))) (.int 0)) (.listOf (.ex (.var 1))) (.tupOf (.ex (.var 1))))) .nil
def ff5 : Fd := ⟨2, 2, [], none, bd5⟩
def bd6 : Sms := .cons (.par 3 true (.listOf (.ex (.var 1))) 4 true (.lst (.nil))) (.cons (.for_ (.nm 2) (.rng1 (.len (.ex (.var 1)))) (.cons (.appPop 4 3 (.call 2 (.cons (.var 0) (.cons (.len (.own 3)) .nil)))) .nil)) (.cons (.frz 4) (.cons (.ret (.var 4)) .nil)))
def ff6 : Fd := ⟨2, 5, [], none, bd6⟩
def bd7 : Sms := .cons (.iff (.or (.cons (.not (.call 11 (.cons (.var 0) .nil))) (.cons (.not (.all (.ex (.comp (.and (.cons (.call 12 (.cons (.var 1) .nil)) (.cons (.cmp .ge (.var 1) (.int 0)) .nil))) [1] (.nm 1) (.seq (.ex (.var 0))) .no)))) (.cons (.cmp .gt (.sum (.ex (.var 0))) (.con 0)) .nil)))) (.cons (.never) .nil) (.nil)) .nil
def ff7 : Fd := ⟨1, 2, [], none, bd7⟩
def bd8 : Sms := .cons (.ret (.call 13 (.cons (.var 0) (.cons (.comp (.call 14 (.cons (.var 1) .nil)) [1] (.nm 1) (.rng1 (.call 15 (.cons (.var 0) .nil))) .no) .nil)))) .nil
def ff8 : Fd := ⟨1, 2, [], none, bd8⟩
def bd9 : Sms := .cons (.asg 1 (.new 0 (.cons (.tup (.cons (.int 1) .nil)) .nil))) (.cons (.for_ (.nm 2) (.seq (.ex (.var 0))) (.cons (.asg 1 (.bin .mul (.var 1) (.var 2))) .nil)) (.cons (.ret (.var 1)) .nil))
def ff9 : Fd := ⟨1, 3, [], none, bd9⟩
def bd10 : Sms := .cons (.own 1 (.lst (.cons (.new 0 (.cons (.tup (.cons (.int 1) .nil)) .nil)) (.cons (.new 0 (.cons (.tup (.cons (.neg (.int 1)) (.cons (.int 1) .nil))) .nil)) .nil)))) (.cons (.for_ (.nm 2) (.rng2 (.int 1) (.var 0)) (.cons (.app 1 (.bin .sub (.bin .mul (.new 0 (.cons (.tup (.cons (.bin .sub (.neg (.var 2)) (.int 1)) (.cons (.int 1) .nil))) .nil)) (.idx (.own 1) (.var 2))) (.bin .mul (.idx (.own 1) (.bin .sub (.var 2) (.int 1))) (.var 2)))) .nil)) (.cons (.ret (.idx (.own 1) (.var 0))) .nil))
def ff10 : Fd := ⟨1, 3, [], none, bd10⟩
def bd11 : Sms := .cons (.ret (.isI (.var 0) [.list, .tuple] true)) .nil
def ff11 : Fd := ⟨1, 1, [], none, bd11⟩
def bd12 : Sms := .cons (.ret (.and (.cons (.isI (.var 0) [.int] false) (.cons (.not (.isI (.var 0) [.bool] false)) .nil)))) .nil
def ff12 : Fd := ⟨1, 1, [], none, bd12⟩
def bd13 : Sms := .cons (.ret (.bin .add (.sum (.ex (.comp (.bin .mul (.var 2) (.var 3)) [2, 3] (.tp [2, 3]) (.zip (.ex (.fld (.var 0) 0)) (.ex (.var 1))) .no))) (.new 1 (.cons (.int 0) .nil)))) .nil
def ff13 : Fd := ⟨2, 4, [], none, bd13⟩
def bd14 : Sms := .cons (.asg 1 (.lst (.cons (.int 1) .nil))) (.cons (.for_ (.nm 2) (.rng1 (.var 0)) (.cons (.own 3 (.lst (.cons (.idx (.ex (.var 1)) (.neg (.int 1))) .nil))) (.cons (.for_ (.nm 4) (.seq (.ex (.var 1))) (.cons (.app 3 (.bin .add (.idx (.own 3) (.neg (.int 1))) (.var 4))) .nil)) (.cons (.frz 3) (.cons (.asg 1 (.var 3)) .nil))))) (.cons (.ret (.idx (.ex (.var 1)) (.int 0))) .nil))
def ff14 : Fd := ⟨1, 5, [], none, bd14⟩
def bd15 : Sms := .cons (.iff (.not (.isI (.var 0) [.cls 0] false)) (.cons (.never) .nil) (.nil)) (.cons (.ret (.bin .add (.fld (.var 0) 1) (.int 1))) .nil)
def ff15 : Fd := ⟨1, 1, [], none, bd15⟩
def bd16 : Sms := .cons (.asg 1 (.len (.ex (.var 0)))) (.cons (.whl (.and (.cons (.cmp .gt (.var 1) (.int 0)) (.cons (.cmp .eq (.fld (.idx (.ex (.var 0)) (.bin .sub (.var 1) (.int 1))) 3) (.int 0)) .nil))) (.cons (.asg 1 (.bin .sub (.var 1) (.int 1))) .nil)) (.cons (.ret (.tupOf (.ex (.slc (.ex (.var 0)) .no (.yes (.var 1)))))) .nil))
def ff16 : Fd := ⟨1, 2, [], none, bd16⟩
def bd17 : Sms := .cons (.iff (.not (.call 11 (.cons (.var 0) .nil))) (.cons (.never) .nil) (.nil)) (.cons (.ret (.comp (.call 23 (.cons (.var 1) .nil)) [1] (.nm 1) (.seq (.ex (.var 0))) .no)) .nil)
def ff17 : Fd := ⟨1, 2, [], none, bd17⟩
def bd18 : Sms := .cons (.ret (.or (.cons (.call 12 (.cons (.var 0) .nil)) (.cons (.isI (.var 0) [.cls 1] false) .nil)))) .nil
def ff18 : Fd := ⟨1, 1, [], none, bd18⟩
def bd19 : Sms := .cons (.ret (.comp (.bin .add (.call 24 (.cons (.var 0) (.cons (.var 2) .nil))) (.call 24 (.cons (.var 1) (.cons (.var 2) .nil)))) [2] (.nm 2) (.rng1 (.max2 (.len (.ex (.var 0))) (.len (.ex (.var 1))))) .no)) .nil
def ff19 : Fd := ⟨2, 3, [], none, bd19⟩
def bd20 : Sms := .cons (.ret (.ife (.call 12 (.cons (.var 0) .nil)) (.new 1 (.cons (.var 0) .nil)) (.var 0))) .nil
def ff20 : Fd := ⟨1, 1, [], none, bd20⟩
def bd21 : Sms := .cons (.ret (.comp (.bin .sub (.call 24 (.cons (.var 0) (.cons (.var 2) .nil))) (.call 24 (.cons (.var 1) (.cons (.var 2) .nil)))) [2] (.nm 2) (.rng1 (.max2 (.len (.ex (.var 0))) (.len (.ex (.var 1))))) .no)) .nil
def ff21 : Fd := ⟨2, 3, [], none, bd21⟩
def bd22 : Sms := .cons (.asg 2 (.ife (.and (.cons (.cmp .gt (.len (.ex (.var 0))) (.int 0)) (.cons (.cmp .gt (.len (.ex (.var 1))) (.int 0)) .nil))) (.bin .sub (.bin .add (.len (.ex (.var 0))) (.len (.ex (.var 1)))) (.int 1)) (.int 0))) (.cons (.ret (.comp (.sum (.ex (.comp (.bin .mul (.idx (.ex (.var 0)) (.var 4)) (.idx (.ex (.var 1)) (.bin .sub (.var 3) (.var 4)))) [4] (.nm 4) (.rng1 (.len (.ex (.var 0)))) (.yes (.chn .le .lt (.int 0) (.bin .sub (.var 3) (.var 4)) (.len (.ex (.var 1)))))))) [3] (.nm 3) (.rng1 (.var 2)) .no)) .nil)
def ff22 : Fd := ⟨2, 5, [], none, bd22⟩
def bd23 : Sms := .cons (.iff (.not (.call 18 (.cons (.var 0) .nil))) (.cons (.never) .nil) (.nil)) (.cons (.ret (.call 20 (.cons (.var 0) .nil))) .nil)
def ff23 : Fd := ⟨1, 1, [], none, bd23⟩
def bd24 : Sms := .cons (.ret (.ife (.cmp .lt (.var 1) (.len (.ex (.var 0)))) (.idx (.ex (.var 0)) (.var 1)) (.new 1 (.cons (.int 0) .nil)))) .nil
def ff24 : Fd := ⟨2, 2, [], none, bd24⟩
def bd25 : Sms := .cons (.sfl 0 0 (.call 16 (.cons (.call 17 (.cons (.var 1) .nil)) .nil))) (.cons (.sfl 0 1 (.bin .sub (.len (.ex (.sfl 0 0))) (.int 1))) (.cons (.sfl 0 2 (.ife (.cmp .gt (.len (.ex (.sfl 0 0))) (.int 0)) (.idx (.ex (.sfl 0 0)) (.neg (.int 1))) (.non))) .nil))
def ff25 : Fd := ⟨2, 2, [.tup []], some 0, bd25⟩
def bd26 : Sms := .cons (.iff (.call 18 (.cons (.var 1) .nil)) (.cons (.ret (.new 0 (.cons (.call 19 (.cons (.fld (.var 0) 0) (.cons (.tup (.cons (.call 20 (.cons (.var 1) .nil)) .nil)) .nil))) .nil))) .nil) (.nil)) (.cons (.iff (.not (.isI (.var 1) [.cls 0] false)) (.cons (.never) .nil) (.nil)) (.cons (.ret (.new 0 (.cons (.call 19 (.cons (.fld (.var 0) 0) (.cons (.fld (.var 1) 0) .nil))) .nil))) .nil))
def ff26 : Fd := ⟨2, 2, [], none, bd26⟩
def bd27 : Sms := .cons (.iff (.call 18 (.cons (.var 1) .nil)) (.cons (.ret (.new 0 (.cons (.call 21 (.cons (.fld (.var 0) 0) (.cons (.tup (.cons (.call 20 (.cons (.var 1) .nil)) .nil)) .nil))) .nil))) .nil) (.nil)) (.cons (.iff (.not (.isI (.var 1) [.cls 0] false)) (.cons (.never) .nil) (.nil)) (.cons (.ret (.new 0 (.cons (.call 21 (.cons (.fld (.var 0) 0) (.cons (.fld (.var 1) 0) .nil))) .nil))) .nil))
def ff27 : Fd := ⟨2, 2, [], none, bd27⟩
def bd28 : Sms := .cons (.iff (.call 18 (.cons (.var 1) .nil)) (.cons (.ret (.new 0 (.cons (.comp (.bin .mul (.var 2) (.var 1)) [2] (.nm 2) (.seq (.ex (.fld (.var 0) 0))) .no) .nil))) .nil) (.nil)) (.cons (.iff (.not (.isI (.var 1) [.cls 0] false)) (.cons (.never) .nil) (.nil)) (.cons (.ret (.new 0 (.cons (.call 22 (.cons (.fld (.var 0) 0) (.cons (.fld (.var 1) 0) .nil))) .nil))) .nil))
def ff28 : Fd := ⟨2, 3, [], none, bd28⟩
def bd29 : Sms := .cons (.iff (.not (.call 18 (.cons (.var 1) .nil))) (.cons (.never) .nil) (.nil)) (.cons (.ret (.new 0 (.cons (.call 19 (.cons (.fld (.var 0) 0) (.cons (.tup (.cons (.call 20 (.cons (.var 1) .nil)) .nil)) .nil))) .nil))) .nil)
def ff29 : Fd := ⟨2, 2, [], none, bd29⟩
def bd30 : Sms := .cons (.iff (.not (.call 18 (.cons (.var 1) .nil))) (.cons (.never) .nil) (.nil)) (.cons (.ret (.new 0 (.cons (.call 21 (.cons (.tup (.cons (.call 20 (.cons (.var 1) .nil)) .nil)) (.cons (.fld (.var 0) 0) .nil))) .nil))) .nil)
def ff30 : Fd := ⟨2, 2, [], none, bd30⟩
def bd31 : Sms := .cons (.iff (.not (.call 18 (.cons (.var 1) .nil))) (.cons (.never) .nil) (.nil)) (.cons (.ret (.new 0 (.cons (.comp (.bin .mul (.var 2) (.var 1)) [2] (.nm 2) (.seq (.ex (.fld (.var 0) 0))) .no) .nil))) .nil)
def ff31 : Fd := ⟨2, 3, [], none, bd31⟩
def bd32 : Sms := .cons (.ret (.new 0 (.cons (.comp (.neg (.var 1)) [1] (.nm 1) (.seq (.ex (.fld (.var 0) 0))) .no) .nil))) .nil
def ff32 : Fd := ⟨1, 2, [], none, bd32⟩
def bd33 : Sms := .cons (.iff (.not (.call 12 (.cons (.var 1) .nil))) (.cons (.never) .nil) (.nil)) (.cons (.iff (.or (.cons (.not (.call 12 (.cons (.var 2) .nil))) (.cons (.cmp .eq (.var 2) (.int 0)) .nil))) (.cons (.never) .nil) (.nil)) (.cons (.asg 3 (.ife (.cmp .gt (.var 2) (.int 0)) (.gcd (.var 1) (.var 2)) (.neg (.gcd (.var 1) (.var 2))))) (.cons (.sfl 0 3 (.bin .fdiv (.var 1) (.var 3))) (.cons (.sfl 0 4 (.bin .fdiv (.var 2) (.var 3))) (.cons (.sfl 0 5 (.bin .sub (.cmp .gt (.sfl 0 3) (.int 0)) (.cmp .lt (.sfl 0 3) (.int 0)))) (.cons (.sfl 0 6 (.cmp .eq (.sfl 0 4) (.int 1))) .nil))))))
def ff33 : Fd := ⟨3, 4, [.int 1], some 1, bd33⟩
def bd34 : Sms := .cons (.iff (.call 12 (.cons (.var 1) .nil)) (.cons (.ret (.new 1 (.cons (.bin .add (.fld (.var 0) 3) (.bin .mul (.var 1) (.fld (.var 0) 4))) (.cons (.fld (.var 0) 4) .nil)))) .nil) (.nil)) (.cons (.iff (.not (.isI (.var 1) [.cls 1] false)) (.cons (.never) .nil) (.nil)) (.cons (.ret (.new 1 (.cons (.bin .add (.bin .mul (.fld (.var 0) 3) (.fld (.var 1) 4)) (.bin .mul (.fld (.var 1) 3) (.fld (.var 0) 4))) (.cons (.bin .mul (.fld (.var 0) 4) (.fld (.var 1) 4)) .nil)))) .nil))
def ff34 : Fd := ⟨2, 2, [], none, bd34⟩
def bd35 : Sms := .cons (.iff (.call 12 (.cons (.var 1) .nil)) (.cons (.ret (.new 1 (.cons (.bin .sub (.fld (.var 0) 3) (.bin .mul (.var 1) (.fld (.var 0) 4))) (.cons (.fld (.var 0) 4) .nil)))) .nil) (.nil)) (.cons (.iff (.not (.isI (.var 1) [.cls 1] false)) (.cons (.never) .nil) (.nil)) (.cons (.ret (.new 1 (.cons (.bin .sub (.bin .mul (.fld (.var 0) 3) (.fld (.var 1) 4)) (.bin .mul (.fld (.var 1) 3) (.fld (.var 0) 4))) (.cons (.bin .mul (.fld (.var 0) 4) (.fld (.var 1) 4)) .nil)))) .nil))
def ff35 : Fd := ⟨2, 2, [], none, bd35⟩
def bd36 : Sms := .cons (.iff (.call 12 (.cons (.var 1) .nil)) (.cons (.ret (.new 1 (.cons (.bin .mul (.fld (.var 0) 3) (.var 1)) (.cons (.fld (.var 0) 4) .nil)))) .nil) (.nil)) (.cons (.iff (.not (.isI (.var 1) [.cls 1] false)) (.cons (.never) .nil) (.nil)) (.cons (.ret (.new 1 (.cons (.bin .mul (.fld (.var 0) 3) (.fld (.var 1) 3)) (.cons (.bin .mul (.fld (.var 0) 4) (.fld (.var 1) 4)) .nil)))) .nil))
def ff36 : Fd := ⟨2, 2, [], none, bd36⟩
def bd37 : Sms := .cons (.iff (.not (.call 12 (.cons (.var 1) .nil))) (.cons (.never) .nil) (.nil)) (.cons (.ret (.new 1 (.cons (.bin .add (.fld (.var 0) 3) (.bin .mul (.var 1) (.fld (.var 0) 4))) (.cons (.fld (.var 0) 4) .nil)))) .nil)
def ff37 : Fd := ⟨2, 2, [], none, bd37⟩
def bd38 : Sms := .cons (.iff (.not (.call 12 (.cons (.var 1) .nil))) (.cons (.never) .nil) (.nil)) (.cons (.ret (.new 1 (.cons (.bin .sub (.bin .mul (.var 1) (.fld (.var 0) 4)) (.fld (.var 0) 3)) (.cons (.fld (.var 0) 4) .nil)))) .nil)
def ff38 : Fd := ⟨2, 2, [], none, bd38⟩
def bd39 : Sms := .cons (.iff (.not (.call 12 (.cons (.var 1) .nil))) (.cons (.never) .nil) (.nil)) (.cons (.ret (.new 1 (.cons (.bin .mul (.fld (.var 0) 3) (.var 1)) (.cons (.fld (.var 0) 4) .nil)))) .nil)
def ff39 : Fd := ⟨2, 2, [], none, bd39⟩
def bd40 : Sms := .cons (.ret (.new 1 (.cons (.neg (.fld (.var 0) 3)) (.cons (.fld (.var 0) 4) .nil)))) .nil
def ff40 : Fd := ⟨1, 1, [], none, bd40⟩
def cl0 : Cl := ⟨25, [0, 1, 2], fun o => match o with | .add => some 26 | .sub => some 27 | .mul => some 28 | _ => none, fun o => match o with | .add => some 29 | .sub => some 30 | .mul => some 31 | _ => none, some 32, none, fun _ => none⟩
def cl1 : Cl := ⟨33, [3, 4, 5, 6], fun o => match o with | .add => some 34 | .sub => some 35 | .mul => some 36 | _ => none, fun o => match o with | .add => some 37 | .sub => some 38 | .mul => some 39 | _ => none, some 40, none, fun _ => none⟩
def cons : List D := [.int 8]
def fns : List Fd := [ff0, ff1, ff2, ff3, ff4, ff5, ff6, ff7, ff8, ff9, ff10, ff11, ff12, ff13, ff14, ff15, ff16, ff17, ff18, ff19, ff20, ff21, ff22, ff23, ff24, ff25, ff26, ff27, ff28, ff29, ff30, ff31, ff32, ff33, ff34, ff35, ff36, ff37, ff38, ff39, ff40]
def clss : List Cl := [cl0, cl1]
def P : Pg := ⟨fun i => fns[i]?, fun c => clss[c]?, fun k => cons[k]?⟩
end Mi.L71

set_option linter.all false
set_option maxRecDepth 100000
set_option maxHeartbeats 1000000
namespace Mi.L71
open Mi
def isIntD : D → Bool
  | .int _ => true
  | _ => false
theorem is_integer_ok {G : Ga} {d : D} {S : Sto} (h : knD G d = true) : xss G bd12 [.va d] S = .ok (.rt (.bl (isIntD d))) S := by
  cases d <;> simp [bd12, xss, xs1, ev, evAnd, asB, R.bind, getN, h, knT, tyIs, isIntD]
def cN (n k i : Nat) (l : List D) (S : Sto) : R D := callN P 100000 n i l S
theorem call_is_integer {n : Nat} {d : D} {S : Sto} (h : knD (gaOf P 100000 n) d = true) : callN P 100000 (n + 1) 12 [d] S = .ok (.bl (isIntD d)) S := by
  show runF (gaOf P 100000 n) ff12 [d] S = _
  have : filled ff12 [d] = some [d] := rfl
  unfold runF
  rw [show ff12.ini = none from rfl]
  simp only [this]
  show (xss _ bd12 [.va d] S).bind _ = _
  rw [is_integer_ok h]
  rfl

/-- an int as a Ratio -/
def sg (t : Int) : Int := b2 (decide (0 < t)) - b2 (decide (t < 0))
def rI (t : Int) : D := .ins 1 [.int t, .int 1, .int (sg t), .bl true]
theorem ci {n : Nat} {t : Int} {S : Sto} : callN P 100000 (n + 1) 12 [.int t] S = .ok (.bl true) S := call_is_integer rfl
theorem fd1 (t : Int) : t.fdiv 1 = t := by simp
theorem ratio_init {n : Nat} {t : Int} {S : Sto} : callN P 100000 (n + 2) 33 [.int t, .int 1] S = .ok (rI t) S := by
  show runF (gaOf P 100000 (n + 1)) ff33 [.int t, .int 1] S = _
  have hf : filled ff33 (.non :: [.int t, .int 1]) = some [.non, .int t, .int 1] := rfl
  have hc : ∀ l S, (gaOf P 100000 (n + 1)).call 12 l S = callN P 100000 (n + 1) 12 l S := fun _ _ => rfl
  unfold runF
  rw [show ff33.ini = some 1 from rfl]
  simp only [hf, show (gaOf P 100000 (n + 1)).cls 1 = some cl1 from rfl]
  show (xss _ bd33 [.sf 1 [], .va (.int t), .va (.int 1), .un] S).bind _ = _
  simp [bd33, xss, xs1, ev, evs, evAnd, evOr, asB, R.bind, getN, setN, hc, ci, cmpD, cmpP, eqD, shN, eqB, binop, binP, divOk, negD, lookF, show (gaOf P 100000 (n + 1)).cls 1 = some cl1 from rfl, cl1, fd1, rI, sg, b2]

def K (n i : Nat) (l : List D) (S : Sto) : R D := callN P 100000 n i l S
theorem kd_rI {n : Nat} {t : Int} : knD (gaOf P 100000 n) (rI t) = true := rfl
theorem ri {n : Nat} {t : Int} {S : Sto} : callN P 100000 (n + 1) 12 [rI t] S = .ok (.bl false) S := call_is_integer kd_rI
theorem ml1 {a : Int} : mulOk a 1 = true := mulOk_l (by decide)
/-- Ratio(t, 1) as an expression's end -/
theorem new_ratio {n : Nat} {es : Exs} {v : Env} {S S' : Sto} {t : Int} (h : evs (gaOf P 100000 (n + 2)) es v S = .ok [.int t, .int 1] S') : ev (gaOf P 100000 (n + 2)) (.new 1 es) v S = .ok (rI t) S' := by
  rw [ev, h]
  show (R.bind ((callN P 100000 (n + 2) 33 [.int t, .int 1] S')) _) = _
  rw [ratio_init]
  rfl
theorem new_ratio1 {n : Nat} {es : Exs} {v : Env} {S S' : Sto} {t : Int} (h : evs (gaOf P 100000 (n + 2)) es v S = .ok [.int t] S') : ev (gaOf P 100000 (n + 2)) (.new 1 es) v S = .ok (rI t) S' := by
  rw [ev, h]
  show (R.bind ((callN P 100000 (n + 2) 33 [.int t] S')) _) = _
  have : callN P 100000 (n + 2) 33 [.int t] S' = callN P 100000 (n + 2) 33 [.int t, .int 1] S' := rfl
  rw [this, ratio_init]
  rfl
section
variable {G : Ga} {v : Env} {S : Sto} {i : Nat} {t : Int}
theorem f3 (c1 : G.cls 1 = some cl1) (h : getN v i = some (.va (rI t))) : ev G (.fld (.var i) 3) v S = .ok (.int t) S := by
  rw [ev, ev, h]; simp [R.bind, rI, c1, cl1, lookF]
theorem f4 (c1 : G.cls 1 = some cl1) (h : getN v i = some (.va (rI t))) : ev G (.fld (.var i) 4) v S = .ok (.int 1) S := by
  rw [ev, ev, h]; simp [R.bind, rI, c1, cl1, lookF]
theorem ty1 : tyIs (.cls 1) (rI t) = true := rfl
end
theorem ratio_add {n : Nat} {a b : Int} {S : Sto} : callN P 100000 (n + 3) 34 [rI a, rI b] S = .ok (rI (a + b)) S := by
  have hc : ∀ l S, (gaOf P 100000 (n + 2)).call 12 l S = callN P 100000 (n + 2) 12 l S := fun _ _ => rfl
  have c1 : (gaOf P 100000 (n + 2)).cls 1 = some cl1 := rfl
  show (xss (gaOf P 100000 (n + 2)) bd34 [.va (rI a), .va (rI b)] S).bind _ = _
  have a3 : ev (gaOf P 100000 (n + 2)) (.fld (.var 0) 3) [.va (rI a), .va (rI b)] S = .ok (.int a) S := f3 c1 rfl
  have a4 : ev (gaOf P 100000 (n + 2)) (.fld (.var 0) 4) [.va (rI a), .va (rI b)] S = .ok (.int 1) S := f4 c1 rfl
  have b3 : ev (gaOf P 100000 (n + 2)) (.fld (.var 1) 3) [.va (rI a), .va (rI b)] S = .ok (.int b) S := f3 c1 rfl
  have b4 : ev (gaOf P 100000 (n + 2)) (.fld (.var 1) 4) [.va (rI a), .va (rI b)] S = .ok (.int 1) S := f4 c1 rfl
  have e := new_ratio (e_evs (e_bin (e_bin a3 b4 (b_mul ml1)) (e_bin b3 a4 (b_mul ml1)) b_add) (e_evs (e_bin a4 b4 (b_mul ml1)) e_evs_nil))
  simp only [Int.mul_one] at e
  simp [bd34, xss, xs1, ↓e, ev, evs, R.bind, getN, hc, ri, asB, kd_rI, knT, ty1, c1]
theorem ratio_addi {n : Nat} {a b : Int} {S : Sto} : callN P 100000 (n + 3) 34 [rI a, .int b] S = .ok (rI (a + b)) S := by
  have hc : ∀ l S, (gaOf P 100000 (n + 2)).call 12 l S = callN P 100000 (n + 2) 12 l S := fun _ _ => rfl
  have c1 : (gaOf P 100000 (n + 2)).cls 1 = some cl1 := rfl
  show (xss (gaOf P 100000 (n + 2)) bd34 [.va (rI a), .va (.int b)] S).bind _ = _
  have a3 : ev (gaOf P 100000 (n + 2)) (.fld (.var 0) 3) [.va (rI a), .va (.int b)] S = .ok (.int a) S := f3 c1 rfl
  have a4 : ev (gaOf P 100000 (n + 2)) (.fld (.var 0) 4) [.va (rI a), .va (.int b)] S = .ok (.int 1) S := f4 c1 rfl
  have e := new_ratio (e_evs (e_bin a3 (e_bin (e_var (i := 1) (d := .int b) rfl) a4 (b_mul ml1)) b_add) (e_evs a4 e_evs_nil))
  simp only [Int.mul_one] at e
  simp [bd34, xss, xs1, ↓e, ev, evs, R.bind, getN, hc, ci, asB]
theorem ratio_mul {n : Nat} {a b : Int} {S : Sto} (h : mulOk a b = true) : callN P 100000 (n + 3) 36 [rI a, rI b] S = .ok (rI (a * b)) S := by
  have hc : ∀ l S, (gaOf P 100000 (n + 2)).call 12 l S = callN P 100000 (n + 2) 12 l S := fun _ _ => rfl
  have c1 : (gaOf P 100000 (n + 2)).cls 1 = some cl1 := rfl
  show (xss (gaOf P 100000 (n + 2)) bd36 [.va (rI a), .va (rI b)] S).bind _ = _
  have a3 : ev (gaOf P 100000 (n + 2)) (.fld (.var 0) 3) [.va (rI a), .va (rI b)] S = .ok (.int a) S := f3 c1 rfl
  have a4 : ev (gaOf P 100000 (n + 2)) (.fld (.var 0) 4) [.va (rI a), .va (rI b)] S = .ok (.int 1) S := f4 c1 rfl
  have b3 : ev (gaOf P 100000 (n + 2)) (.fld (.var 1) 3) [.va (rI a), .va (rI b)] S = .ok (.int b) S := f3 c1 rfl
  have b4 : ev (gaOf P 100000 (n + 2)) (.fld (.var 1) 4) [.va (rI a), .va (rI b)] S = .ok (.int 1) S := f4 c1 rfl
  have e := new_ratio (e_evs (e_bin a3 b3 (b_mul h)) (e_evs (e_bin a4 b4 (b_mul ml1)) e_evs_nil))
  simp [bd36, xss, xs1, ↓e, ev, evs, R.bind, getN, hc, ri, asB, kd_rI, knT, ty1, c1]
theorem ratio_muli {n : Nat} {a b : Int} {S : Sto} (h : mulOk a b = true) : callN P 100000 (n + 3) 36 [rI a, .int b] S = .ok (rI (a * b)) S := by
  have hc : ∀ l S, (gaOf P 100000 (n + 2)).call 12 l S = callN P 100000 (n + 2) 12 l S := fun _ _ => rfl
  have c1 : (gaOf P 100000 (n + 2)).cls 1 = some cl1 := rfl
  show (xss (gaOf P 100000 (n + 2)) bd36 [.va (rI a), .va (.int b)] S).bind _ = _
  have a3 : ev (gaOf P 100000 (n + 2)) (.fld (.var 0) 3) [.va (rI a), .va (.int b)] S = .ok (.int a) S := f3 c1 rfl
  have a4 : ev (gaOf P 100000 (n + 2)) (.fld (.var 0) 4) [.va (rI a), .va (.int b)] S = .ok (.int 1) S := f4 c1 rfl
  have e := new_ratio (e_evs (e_bin a3 (e_var (i := 1) (d := .int b) rfl) (b_mul h)) (e_evs a4 e_evs_nil))
  simp [bd36, xss, xs1, ↓e, ev, evs, R.bind, getN, hc, ci, asB]
theorem ratio_radd {n : Nat} {a b : Int} {S : Sto} : callN P 100000 (n + 3) 37 [rI a, .int b] S = .ok (rI (a + b)) S := by
  have hc : ∀ l S, (gaOf P 100000 (n + 2)).call 12 l S = callN P 100000 (n + 2) 12 l S := fun _ _ => rfl
  have c1 : (gaOf P 100000 (n + 2)).cls 1 = some cl1 := rfl
  show (xss (gaOf P 100000 (n + 2)) bd37 [.va (rI a), .va (.int b)] S).bind _ = _
  have a3 : ev (gaOf P 100000 (n + 2)) (.fld (.var 0) 3) [.va (rI a), .va (.int b)] S = .ok (.int a) S := f3 c1 rfl
  have a4 : ev (gaOf P 100000 (n + 2)) (.fld (.var 0) 4) [.va (rI a), .va (.int b)] S = .ok (.int 1) S := f4 c1 rfl
  have e := new_ratio (e_evs (e_bin a3 (e_bin (e_var (i := 1) (d := .int b) rfl) a4 (b_mul ml1)) b_add) (e_evs a4 e_evs_nil))
  simp only [Int.mul_one] at e
  simp [bd37, xss, xs1, ↓e, ev, evs, R.bind, getN, hc, ci, asB]
theorem ratio_sub {n : Nat} {a b : Int} {S : Sto} : callN P 100000 (n + 3) 35 [rI a, rI b] S = .ok (rI (a - b)) S := by
  have hc : ∀ l S, (gaOf P 100000 (n + 2)).call 12 l S = callN P 100000 (n + 2) 12 l S := fun _ _ => rfl
  have c1 : (gaOf P 100000 (n + 2)).cls 1 = some cl1 := rfl
  show (xss (gaOf P 100000 (n + 2)) bd35 [.va (rI a), .va (rI b)] S).bind _ = _
  have a3 : ev (gaOf P 100000 (n + 2)) (.fld (.var 0) 3) [.va (rI a), .va (rI b)] S = .ok (.int a) S := f3 c1 rfl
  have a4 : ev (gaOf P 100000 (n + 2)) (.fld (.var 0) 4) [.va (rI a), .va (rI b)] S = .ok (.int 1) S := f4 c1 rfl
  have b3 : ev (gaOf P 100000 (n + 2)) (.fld (.var 1) 3) [.va (rI a), .va (rI b)] S = .ok (.int b) S := f3 c1 rfl
  have b4 : ev (gaOf P 100000 (n + 2)) (.fld (.var 1) 4) [.va (rI a), .va (rI b)] S = .ok (.int 1) S := f4 c1 rfl
  have e := new_ratio (e_evs (e_bin (e_bin a3 b4 (b_mul ml1)) (e_bin b3 a4 (b_mul ml1)) b_sub) (e_evs (e_bin a4 b4 (b_mul ml1)) e_evs_nil))
  simp only [Int.mul_one] at e
  simp [bd35, xss, xs1, ↓e, ev, evs, R.bind, getN, hc, ri, asB, kd_rI, knT, ty1, c1]
theorem B_add {n : Nat} {a b : Int} {S : Sto} : binop (gaOf P 100000 (n + 3)) .add (rI a) (rI b) S = .ok (rI (a + b)) S := by
  show (callN P 100000 (n + 3) 34 [rI a, rI b] S).nox = _
  rw [ratio_add]; rfl
theorem B_addi {n : Nat} {a b : Int} {S : Sto} : binop (gaOf P 100000 (n + 3)) .add (rI a) (.int b) S = .ok (rI (a + b)) S := by
  show (callN P 100000 (n + 3) 34 [rI a, .int b] S).nox = _
  rw [ratio_addi]; rfl
theorem B_radd {n : Nat} {a b : Int} {S : Sto} : binop (gaOf P 100000 (n + 3)) .add (.int b) (rI a) S = .ok (rI (a + b)) S := by
  show (callN P 100000 (n + 3) 37 [rI a, .int b] S).nox = _
  rw [ratio_radd]; rfl
theorem B_sub {n : Nat} {a b : Int} {S : Sto} : binop (gaOf P 100000 (n + 3)) .sub (rI a) (rI b) S = .ok (rI (a - b)) S := by
  show (callN P 100000 (n + 3) 35 [rI a, rI b] S).nox = _
  rw [ratio_sub]; rfl
theorem B_mul {n : Nat} {a b : Int} {S : Sto} (h : mulOk a b = true) : binop (gaOf P 100000 (n + 3)) .mul (rI a) (rI b) S = .ok (rI (a * b)) S := by
  show (callN P 100000 (n + 3) 36 [rI a, rI b] S).nox = _
  rw [ratio_mul h]; rfl
theorem B_muli {n : Nat} {a b : Int} {S : Sto} (h : mulOk a b = true) : binop (gaOf P 100000 (n + 3)) .mul (rI a) (.int b) S = .ok (rI (a * b)) S := by
  show (callN P 100000 (n + 3) 36 [rI a, .int b] S).nox = _
  rw [ratio_muli h]; rfl
/-- sums of Ratios -/
theorem sum_from {n : Nat} : ∀ (l : List Int) (a : Int) (S : Sto), sumL (gaOf P 100000 (n + 3)) (l.map rI) (rI a) S = .ok (rI (a + l.sum)) S
  | [], a, S => by simp [sumL]
  | x :: l, a, S => by
    rw [List.map_cons, sumL, B_add]
    show sumL _ (l.map rI) (rI (a + x)) S = _
    rw [sum_from l (a + x) S, List.sum_cons, Int.add_assoc]
theorem sum_rI {n : Nat} {x : Int} {l : List Int} {S : Sto} : sumL (gaOf P 100000 (n + 3)) ((x :: l).map rI) (.int 0) S = .ok (rI ((x :: l).sum)) S := by
  rw [List.map_cons, sumL, B_radd]
  show sumL _ (l.map rI) (rI (x + 0)) S = _
  rw [sum_from, Int.add_zero, List.sum_cons]
/-- is_number, plain_ratio, ratio_of -/
def finF : Fl → Sto → R D := fun r S => match r with
  | .rt d => .ok d S
  | .nx _ => .ok .non S
  | _ => .bad
theorem call_run {n i : Nat} {f : Fd} {l es : List D} {S : Sto} (hf : P.fns i = some f) (hi : f.ini = none) (he : filled f l = some es) : callN P 100000 (n + 1) i l S = (xss (gaOf P 100000 n) f.body (padU (f.ns - es.length) (es.map .va)) S).bind finF := by
  rw [callN, hf]
  show runF _ f l S = _
  unfold runF
  rw [hi]
  simp only [he]
  rfl
theorem is_number_r {n : Nat} {a : Int} {S : Sto} : callN P 100000 (n + 2) 18 [rI a] S = .ok (.bl true) S := by
  have hc : ∀ l S, (gaOf P 100000 (n + 1)).call 12 l S = callN P 100000 (n + 1) 12 l S := fun _ _ => rfl
  have c1 : (gaOf P 100000 (n + 1)).cls 1 = some cl1 := rfl
  rw [call_run (n := n + 1) (f := ff18) (es := [rI a]) rfl rfl rfl]
  simp [finF, padU, ff18, bd18, xss, xs1, ev, evs, evOr, R.bind, getN, hc, ri, asB, kd_rI, knT, ty1, c1]
theorem is_number_i {n : Nat} {a : Int} {S : Sto} : callN P 100000 (n + 2) 18 [.int a] S = .ok (.bl true) S := by
  have hc : ∀ l S, (gaOf P 100000 (n + 1)).call 12 l S = callN P 100000 (n + 1) 12 l S := fun _ _ => rfl
  rw [call_run (n := n + 1) (f := ff18) (es := [.int a]) rfl rfl rfl]
  simp [finF, padU, ff18, bd18, xss, xs1, ev, evs, evOr, R.bind, getN, hc, ci, asB]
theorem plain_r {n : Nat} {a : Int} {S : Sto} : callN P 100000 (n + 3) 20 [rI a] S = .ok (rI a) S := by
  have hc : ∀ l S, (gaOf P 100000 (n + 2)).call 12 l S = callN P 100000 (n + 2) 12 l S := fun _ _ => rfl
  rw [call_run (n := n + 2) (f := ff20) (es := [rI a]) rfl rfl rfl]
  simp [finF, padU, ff20, bd20, xss, xs1, ev, evs, R.bind, getN, hc, ri, asB]
theorem plain_i {n : Nat} {a : Int} {S : Sto} : callN P 100000 (n + 3) 20 [.int a] S = .ok (rI a) S := by
  have hc : ∀ l S, (gaOf P 100000 (n + 2)).call 12 l S = callN P 100000 (n + 2) 12 l S := fun _ _ => rfl
  rw [call_run (n := n + 2) (f := ff20) (es := [.int a]) rfl rfl rfl]
  have e := new_ratio1 (n := n) (e_evs (e_var (i := 0) (v := [.va (.int a)]) (S := S) (d := .int a) rfl) e_evs_nil)
  simp [finF, padU, ff20, bd20, xss, xs1, ↓e, ev, evs, R.bind, getN, hc, ci, asB]
theorem ratio_of_r {n : Nat} {a : Int} {S : Sto} : callN P 100000 (n + 4) 23 [rI a] S = .ok (rI a) S := by
  have h1 : ∀ l S, (gaOf P 100000 (n + 3)).call 18 l S = callN P 100000 (n + 3) 18 l S := fun _ _ => rfl
  have h2 : ∀ l S, (gaOf P 100000 (n + 3)).call 20 l S = callN P 100000 (n + 3) 20 l S := fun _ _ => rfl
  rw [call_run (n := n + 3) (f := ff23) (es := [rI a]) rfl rfl rfl]
  simp [finF, padU, ff23, bd23, xss, xs1, ev, evs, R.bind, getN, h1, h2, is_number_r, plain_r, asB]
theorem ratio_of_i {n : Nat} {a : Int} {S : Sto} : callN P 100000 (n + 4) 23 [.int a] S = .ok (rI a) S := by
  have h1 : ∀ l S, (gaOf P 100000 (n + 3)).call 18 l S = callN P 100000 (n + 3) 18 l S := fun _ _ => rfl
  have h2 : ∀ l S, (gaOf P 100000 (n + 3)).call 20 l S = callN P 100000 (n + 3) 20 l S := fun _ _ => rfl
  rw [call_run (n := n + 3) (f := ff23) (es := [.int a]) rfl rfl rfl]
  simp [finF, padU, ff23, bd23, xss, xs1, ev, evs, R.bind, getN, h1, h2, is_number_i, plain_i, asB]
end Mi.L71

set_option linter.all false
set_option maxRecDepth 100000
set_option maxHeartbeats 1000000
namespace Mi.L71
open Mi
section
variable {G : Ga}
theorem compL_map {g : D → Sto → R (Option D)} {f : D → D} {S : Sto} : ∀ (m : List D), (∀ x ∈ m, g x S = .ok (some (f x)) S) → compL g m S = .ok (m.map f) S
  | [], _ => rfl
  | x :: m, h => by
    rw [compL, h x (by simp)]
    show (compL g m S).bind _ = _
    rw [compL_map m fun y hy => h y (by simp [hy])]
    rfl
/-- a comprehension without a test, over what is walked -/
theorem e_compN {e : Ex} {i : Nat} {it : Wk} {v : Env} {S : Sto} {l : List D} {f : D → D} (hi : evt G it v S = .ok l S) (hl : l.length < SZ) (h : ∀ x ∈ l, ev G e (setN (wipe v [i]) i (.va x)) S = .ok (f x) S) : ev G (.comp e [i] (.nm i) it .no) v S = .ok (.lst (l.map f)) S := by
  rw [ev, hi]
  show (if l.length < SZ then (compL _ l S).bind _ else _) = _
  rw [if_pos hl]
  refine (congrArg (fun r => R.bind r _) (compL_map (f := f) l ?_)).trans rfl
  intro x hx
  show ((evc G .no _ S).nox.bind _) = _
  rw [evc]
  simp [R.nox, R.bind, h x hx]
theorem t_seq {e : Ex} {v : Env} {S S' : Sto} {l : List D} (h : ev G e v S = .ok (.lst l) S') : evt G (.seq (.ex e)) v S = .ok l S' := by
  rw [evt, evq, h]; rfl
theorem t_seqT {e : Ex} {v : Env} {S S' : Sto} {l : List D} (h : ev G e v S = .ok (.tup l) S') : evt G (.seq (.ex e)) v S = .ok l S' := by
  rw [evt, evq, h]; rfl
end
/-- a number as a Ratio -/
def toR : D → D
  | .int a => rI a
  | d => d
def isNum (d : D) : Prop := (∃ a, d = .int a) ∨ ∃ a, d = rI a
theorem ratio_of_ok {n : Nat} {d : D} {S : Sto} (h : isNum d) : callN P 100000 (n + 4) 23 [d] S = .ok (toR d) S := by
  rcases h with ⟨a, rfl⟩ | ⟨a, rfl⟩
  · exact ratio_of_i
  · exact ratio_of_r
theorem is_row_l {n : Nat} {l : List D} {S : Sto} : callN P 100000 (n + 1) 11 [.lst l] S = .ok (.bl true) S := by
  rw [call_run (f := ff11) (es := [.lst l]) rfl rfl rfl]
  simp [finF, padU, ff11, bd11, xss, xs1, ev, evs, R.bind, getN, knD, knT, tyIs]
theorem is_row_t {n : Nat} {l : List D} {S : Sto} : callN P 100000 (n + 1) 11 [.tup l] S = .ok (.bl true) S := by
  rw [call_run (f := ff11) (es := [.tup l]) rfl rfl rfl]
  simp [finF, padU, ff11, bd11, xss, xs1, ev, evs, R.bind, getN, knD, knT, tyIs]
theorem need_numbers_l {n : Nat} {l : List D} {S : Sto} (h : ∀ d ∈ l, isNum d) (hl : l.length < SZ) : callN P 100000 (n + 5) 17 [.lst l] S = .ok (.lst (l.map toR)) S := by
  have h1 : ∀ l S, (gaOf P 100000 (n + 4)).call 11 l S = callN P 100000 (n + 4) 11 l S := fun _ _ => rfl
  have h2 : ∀ l S, (gaOf P 100000 (n + 4)).call 23 l S = callN P 100000 (n + 4) 23 l S := fun _ _ => rfl
  rw [call_run (n := n + 4) (f := ff17) (es := [.lst l]) rfl rfl rfl]
  have e : ev (gaOf P 100000 (n + 4)) (.comp (.call 23 (.cons (.var 1) .nil)) [1] (.nm 1) (.seq (.ex (.var 0))) .no) [.va (.lst l), .un] S = .ok (.lst (l.map toR)) S :=
    e_compN (t_seq (e_var rfl)) hl fun x hx => by
      simp [ev, evs, wipe, setN, getN, R.bind, h2, ratio_of_ok (h x hx)]
  simp [finF, padU, ff17, bd17, xss, xs1, ↓e, ev, evs, R.bind, getN, h1, is_row_l, asB]
theorem need_numbers_t {n : Nat} {l : List D} {S : Sto} (h : ∀ d ∈ l, isNum d) (hl : l.length < SZ) : callN P 100000 (n + 5) 17 [.tup l] S = .ok (.lst (l.map toR)) S := by
  have h1 : ∀ l S, (gaOf P 100000 (n + 4)).call 11 l S = callN P 100000 (n + 4) 11 l S := fun _ _ => rfl
  have h2 : ∀ l S, (gaOf P 100000 (n + 4)).call 23 l S = callN P 100000 (n + 4) 23 l S := fun _ _ => rfl
  rw [call_run (n := n + 4) (f := ff17) (es := [.tup l]) rfl rfl rfl]
  have e : ev (gaOf P 100000 (n + 4)) (.comp (.call 23 (.cons (.var 1) .nil)) [1] (.nm 1) (.seq (.ex (.var 0))) .no) [.va (.tup l), .un] S = .ok (.lst (l.map toR)) S :=
    e_compN (t_seqT (e_var rfl)) hl fun x hx => by
      simp [ev, evs, wipe, setN, getN, R.bind, h2, ratio_of_ok (h x hx)]
  simp [finF, padU, ff17, bd17, xss, xs1, ↓e, ev, evs, R.bind, getN, h1, is_row_t, asB]
end Mi.L71

set_option linter.all false
set_option maxRecDepth 100000
set_option maxHeartbeats 1000000
namespace Mi.L71
open Mi
section
variable {G : Ga} {v : Env} {S S' : Sto} {t : Int} {e : Ex}
theorem g3 (c1 : G.cls 1 = some cl1) (h : ev G e v S = .ok (rI t) S') : ev G (.fld e 3) v S = .ok (.int t) S' := by
  rw [ev, h]; simp [R.bind, rI, c1, cl1, lookF]
theorem g4 (c1 : G.cls 1 = some cl1) (h : ev G e v S = .ok (rI t) S') : ev G (.fld e 4) v S = .ok (.int 1) S' := by
  rw [ev, h]; simp [R.bind, rI, c1, cl1, lookF]
theorem g6 (c1 : G.cls 1 = some cl1) (h : ev G e v S = .ok (rI t) S') : ev G (.fld e 6) v S = .ok (.bl true) S' := by
  rw [ev, h]; simp [R.bind, rI, c1, cl1, lookF]
theorem e_lenT {l : List D} (h : ev G e v S = .ok (.tup l) S') : ev G (.len (.ex e)) v S = .ok (.int l.length) S' := by
  rw [ev, evq, h]; rfl
theorem e_idxT {i : Ex} {S1 S2 : Sto} {l : List D} {j : Int} {d : D} (h : ev G e v S = .ok (.tup l) S1) (hi : ev G i v S1 = .ok (.int j) S2) (hd : atI l j = some d) : ev G (.idx (.ex e) i) v S = .ok d S2 := by
  rw [ev, evq, h]; simp only [R.bind, hi, hd]
end
theorem atI_map {f : Int → D} {l : List Int} {n : Nat} {x : Int} (h : l[n]? = some x) : atI (l.map f) (n : Int) = some (f x) := by
  have hl : n < l.length := by
    rcases Nat.lt_or_ge n l.length with h1 | h1
    · exact h1
    · rw [List.getElem?_eq_none h1] at h; cases h
  rw [atI_nat (by omega) (by simpa using hl), Int.toNat_natCast, List.getElem?_map, h]; rfl
/-- how much of the first n items stays when zeros fall off the end -/
def keep (l : List Int) : Nat → Nat
  | 0 => 0
  | n + 1 => if l[n]? = some 0 then keep l n else n + 1
def trim (l : List Int) : List Int := l.take (keep l l.length)
def wzC : Ex := .and (.cons (.cmp .gt (.var 1) (.int 0)) (.cons (.cmp .eq (.fld (.idx (.ex (.var 0)) (.bin .sub (.var 1) (.int 1))) 3) (.int 0)) .nil))
theorem wz_loop {G : Ga} (c1 : G.cls 1 = some cl1) {l : List Int} {S : Sto} : ∀ (n k : Nat), n ≤ l.length → n < k →
    whlL (fun v S => (ev G wzC v S).bind fun x S => asB x S) (fun v S => xss G (.cons (.asg 1 (.bin .sub (.var 1) (.int 1))) .nil) v S) k [.va (.lst (l.map rI)), .va (.int n)] S = .ok (.nx [.va (.lst (l.map rI)), .va (.int (keep l n))]) S
  | _, 0, _, h => absurd h (by omega)
  | 0, k + 1, _, _ => by
    rw [whlL]
    simp [wzC, ev, evAnd, cmpD, cmpP, asB, R.bind, getN, keep]
  | n + 1, k + 1, h, hk => by
    obtain ⟨x, hx⟩ : ∃ x, l[n]? = some x := ⟨l[n]'(by omega), List.getElem?_eq_getElem (by omega)⟩
    have v0 : getN ([.va (.lst (l.map rI)), .va (.int ((n + 1 : Nat) : Int))] : Env) 0 = some (.va (.lst (l.map rI))) := rfl
    have v1 : getN ([.va (.lst (l.map rI)), .va (.int ((n + 1 : Nat) : Int))] : Env) 1 = some (.va (.int ((n + 1 : Nat) : Int))) := rfl
    have e1 : ((n + 1 : Nat) : Int) - 1 = (n : Int) := by omega
    have e : ev G wzC [.va (.lst (l.map rI)), .va (.int ((n + 1 : Nat) : Int))] S = .ok (.bl (decide (0 < ((n + 1 : Nat) : Int)) && (x == 0))) S :=
      e_and2 (e_cmp (e_var v1) e_int c_gt) (e_cmp (g3 c1 (e_idx (e_var v0) (e_bin (e_var v1) e_int b_sub) (by rw [e1]; exact atI_map hx))) e_int c_eq)
    rw [whlL, e]
    have p : decide (0 < ((n + 1 : Nat) : Int)) = true := by simp
    rw [p]
    by_cases z : x = 0
    · subst z
      simp only [R.bind, asB, Bool.true_and, beq_self_eq_true, if_true]
      rw [x_cons (x_asg (e_bin (e_var v1) e_int b_sub)), e1]
      show whlL _ _ k [.va (.lst (l.map rI)), .va (.int n)] S = _
      have := wz_loop c1 (l := l) (S := S) n k (by omega) (by omega)
      rw [show (fun v S => xss G (.cons (.asg 1 (.bin .sub (.var 1) (.int 1))) .nil) v S) = _ from rfl] at this
      rw [keep, if_pos hx]
      exact this
    · have : (x == 0) = false := by simp [z]
      simp only [R.bind, asB, this, Bool.and_false, Bool.false_eq_true, if_false]
      rw [keep, if_neg]
      rw [hx]; simp [z]
theorem cut_to {l : List Int} {f : Int → D} {n : Nat} (h : n ≤ l.length) : cut (l.map f) none (some (n : Int)) = (l.take n).map f := by
  show ((l.map f).drop 0).take ((if (n : Int) < 0 then ((n : Int) + ((l.map f).length : Int)).toNat else min (n : Int).toNat (l.map f).length) - 0) = _
  rw [if_neg (by omega)]
  simp only [List.drop_zero, Int.toNat_natCast, List.length_map, Nat.sub_zero, List.map_take]
  rw [Nat.min_eq_left h]
theorem keep_le (l : List Int) : ∀ n, keep l n ≤ n
  | 0 => Nat.le_refl _
  | n + 1 => by
    rw [keep]; split
    · exact Nat.le_trans (keep_le l n) (by omega)
    · exact Nat.le_refl _
theorem without_zeros_ok {n : Nat} {l : List Int} {S : Sto} (hl : l.length < 100000) : callN P 100000 (n + 1) 16 [.lst (l.map rI)] S = .ok (.tup ((trim l).map rI)) S := by
  have c1 : (gaOf P 100000 n).cls 1 = some cl1 := rfl
  rw [call_run (n := n) (f := ff16) (es := [.lst (l.map rI)]) rfl rfl rfl]
  show (xss _ bd16 [.va (.lst (l.map rI)), .un] S).bind _ = _
  have v0 : getN ([.va (.lst (l.map rI)), .un] : Env) 0 = some (.va (.lst (l.map rI))) := rfl
  unfold bd16
  rw [x_cons (x_asg (e_len (e_var v0))), List.length_map]
  show (xss _ _ [.va (.lst (l.map rI)), .va (.int l.length)] S).bind _ = _
  rw [x_cons (v' := [.va (.lst (l.map rI)), .va (.int (keep l l.length))]) (S' := S) (by
    rw [xs1]
    exact wz_loop c1 l.length 100000 (Nat.le_refl _) hl)]
  rw [x_ret (d := .tup ((trim l).map rI)) (S' := S) (by
    simp [ev, evq, evk, evo, R.bind, getN, cut_to (keep_le l l.length), trim])]
  rfl
end Mi.L71

set_option linter.all false
set_option maxRecDepth 100000
set_option maxHeartbeats 1000000
namespace Mi.L71
open Mi
def numI : D → Int
  | .int a => a
  | .ins _ (.int a :: _) => a
  | _ => 0
theorem toR_num {d : D} (h : isNum d) : toR d = rI (numI d) := by
  rcases h with ⟨a, rfl⟩ | ⟨a, rfl⟩ <;> rfl
theorem isNum_i (a : Int) : isNum (.int a) := .inl ⟨a, rfl⟩
theorem isNum_r (a : Int) : isNum (rI a) := .inr ⟨a, rfl⟩
@[simp] theorem numI_r (a : Int) : numI (rI a) = a := rfl
@[simp] theorem numI_i (a : Int) : numI (.int a) = a := rfl
theorem map_toR {l : List D} (h : ∀ d ∈ l, isNum d) : l.map toR = (l.map numI).map rI := by
  rw [List.map_map]
  exact List.map_congr_left fun d hd => toR_num (h d hd)
def leadD (l : List Int) : D := if 0 < l.length then (atI (l.map rI) (-1)).getD .non else .non
/-- a Poly of its coefficients, no zero at the end -/
def pT (l : List Int) : D := .ins 0 [.tup (l.map rI), .int ((l.length : Int) - 1), leadD l]
def pZ (l : List Int) : D := pT (trim l)
theorem lead_some {l : List Int} (h : 0 < l.length) : atI (l.map rI) (-1) = some (leadD l) := by
  unfold leadD
  rw [if_pos h]
  have : ∃ x, atI (l.map rI) (-1) = some x := by
    unfold atI ixN
    rw [if_neg (by omega), if_pos (by simp; omega)]
    exact ⟨_, List.getElem?_eq_getElem (by simp; omega)⟩
  obtain ⟨x, hx⟩ := this
  rw [hx]; rfl
theorem trim_len (l : List Int) : (trim l).length ≤ l.length := by unfold trim; simp; omega
/-- Poly.__init__ -/
theorem poly_init {n : Nat} {q : D} {l : List D} {S : Sto} (hq : q = .lst l ∨ q = .tup l) (h : ∀ d ∈ l, isNum d) (hl : l.length < 100000) : callN P 100000 (n + 6) 25 [q] S = .ok (pZ (l.map numI)) S := by
  show runF (gaOf P 100000 (n + 5)) ff25 [q] S = _
  have hf : filled ff25 (.non :: [q]) = some [.non, q] := rfl
  have c0 : (gaOf P 100000 (n + 5)).cls 0 = some cl0 := rfl
  have h1 : ∀ l S, (gaOf P 100000 (n + 5)).call 17 l S = callN P 100000 (n + 5) 17 l S := fun _ _ => rfl
  have h2 : ∀ l S, (gaOf P 100000 (n + 5)).call 16 l S = callN P 100000 (n + 5) 16 l S := fun _ _ => rfl
  unfold runF
  rw [show ff25.ini = some 0 from rfl]
  simp only [hf, c0]
  show (xss _ bd25 [.sf 0 [], .va q] S).bind _ = _
  have hn : callN P 100000 (n + 5) 17 [q] S = .ok (.lst ((l.map numI).map rI)) S := by
    rcases hq with rfl | rfl
    · rw [need_numbers_l h (by unfold SZ; omega), map_toR h]
    · rw [need_numbers_t h (by unfold SZ; omega), map_toR h]
  have hw : callN P 100000 (n + 5) 16 [.lst ((l.map numI).map rI)] S = .ok (.tup ((trim (l.map numI)).map rI)) S := without_zeros_ok (n := n + 4) (by simpa using hl)
  generalize hm : trim (l.map numI) = m at hw
  have g0 : ∀ (e : Ex) (S' : Sto) (es : List D), ev (gaOf P 100000 (n + 5)) (.sfl 0 0) [.sf 0 (.tup (m.map rI) :: es), .va q] S' = .ok (.tup (m.map rI)) S' := by
    intro _ S' es
    simp [ev, getN, c0, cl0, lookF]
  have e1 : ev (gaOf P 100000 (n + 5)) (.call 16 (.cons (.call 17 (.cons (.var 1) .nil)) .nil)) [.sf 0 [], .va q] S = .ok (.tup (m.map rI)) S := by
    simp only [ev, evs, R.bind, getN, h1, h2, hn, hw]
  have x1 : xs1 (gaOf P 100000 (n + 5)) (.sfl 0 0 (.call 16 (.cons (.call 17 (.cons (.var 1) .nil)) .nil))) [.sf 0 [], .va q] S = .ok (.nx [.sf 0 [.tup (m.map rI)], .va q]) S := by
    simp [xs1, e1, R.bind, getN, setN, c0, cl0]
  have x2 : xs1 (gaOf P 100000 (n + 5)) (.sfl 0 1 (.bin .sub (.len (.ex (.sfl 0 0))) (.int 1))) [.sf 0 [.tup (m.map rI)], .va q] S = .ok (.nx [.sf 0 [.tup (m.map rI), .int ((m.length : Int) - 1)], .va q]) S := by
    have := e_bin (G := gaOf P 100000 (n + 5)) (e_lenT (g0 .non S [])) (e_int (n := 1)) b_sub
    simp [xs1, this, R.bind, getN, setN, c0, cl0]
  have x3 : xs1 (gaOf P 100000 (n + 5)) (.sfl 0 2 (.ife (.cmp .gt (.len (.ex (.sfl 0 0))) (.int 0)) (.idx (.ex (.sfl 0 0)) (.neg (.int 1))) (.non))) [.sf 0 [.tup (m.map rI), .int ((m.length : Int) - 1)], .va q] S = .ok (.nx [.sf 0 [.tup (m.map rI), .int ((m.length : Int) - 1), leadD m], .va q]) S := by
    have a : ev (gaOf P 100000 (n + 5)) (.ife (.cmp .gt (.len (.ex (.sfl 0 0))) (.int 0)) (.idx (.ex (.sfl 0 0)) (.neg (.int 1))) (.non)) [.sf 0 [.tup (m.map rI), .int ((m.length : Int) - 1)], .va q] S = .ok (leadD m) S := by
      rw [ev, e_cmp (e_lenT (g0 .non S _)) e_int c_gt]
      by_cases z : 0 < m.length
      · have : decide ((0 : Int) < ((m.map rI).length : Int)) = true := by simpa using z
        rw [this]
        simp only [R.bind, asB, if_true]
        exact e_idxT (g0 .non S _) (j := -1) (by simp [ev, negD, R.bind]) (lead_some z)
      · have : decide ((0 : Int) < ((m.map rI).length : Int)) = false := by simp at z ⊢; omega
        rw [this]
        simp only [R.bind, asB, Bool.false_eq_true, if_false]
        rw [ev, leadD, if_neg z]
    simp [xs1, a, R.bind, getN, setN, c0, cl0]
  unfold bd25
  rw [x_cons x1, x_cons x2, x_cons x3]
  simp [xss, R.bind, cl0, pZ, pT, hm]
end Mi.L71

set_option linter.all false
set_option maxRecDepth 100000
set_option maxHeartbeats 1000000
namespace Mi.L71
open Mi
theorem upto_map : ∀ (n : Nat) (i : Int), upto n i = (List.range n).map fun (k : Nat) => D.int (i + (k : Int))
  | 0, _ => rfl
  | n + 1, i => by
    rw [upto, upto_map n (i + 1), List.range_succ_eq_map, List.map_cons, List.map_map]
    congr 1
    · simp
    · apply List.map_congr_left
      intro k _
      show D.int (i + 1 + (k : Int)) = D.int (i + ((k + 1 : Nat) : Int))
      congr 1; omega
theorem upto_0 (n : Nat) : upto n 0 = (List.range n).map fun (k : Nat) => D.int (k : Int) := by
  rw [upto_map]; apply List.map_congr_left; intro k _; simp
theorem mem_upto {n : Nat} {d : D} (h : d ∈ upto n 0) : ∃ k, k < n ∧ d = .int (k : Int) := by
  rw [upto_0] at h
  obtain ⟨k, h1, h2⟩ := List.mem_map.1 h
  exact ⟨k, by simpa using h1, h2.symm⟩
section
variable {G : Ga} {v : Env} {S S' : Sto} {e : Ex}
theorem t_rng {n : Nat} (h : ev G e v S = .ok (.int (n : Int)) S') (hn : n < 100000) : evt G (.rng1 e) v S = .ok (upto n 0) S' := by
  rw [evt, h]
  have hj : ∀ j : Int, -4611686018427387904 ≤ j → j < 4611686018427387904 → (R.ok (D.int j) S').bind (fun x S => match x with
    | .int j => if -4611686018427387904 ≤ j ∧ j < 4611686018427387904 then R.ok (upto j.toNat 0) S else .bad
    | _ => .bad) = .ok (upto j.toNat 0) S' := fun j h1 h2 => if_pos ⟨h1, h2⟩
  have e : (n : Int).toNat = n := Int.toNat_natCast n
  have := hj (n : Int) (by omega) (by omega)
  rw [e] at this
  exact this
/-- a comprehension over range(n) -/
theorem e_compR {f : Nat → D} {i n : Nat} {b : Ex} (h : ev G b v S = .ok (.int (n : Int)) S) (hn : n < 100000) (hf : ∀ k, k < n → ev G e (setN (wipe v [i]) i (.va (.int (k : Int)))) S = .ok (f k) S) : ev G (.comp e [i] (.nm i) (.rng1 b) .no) v S = .ok (.lst ((List.range n).map f)) S := by
  have := e_compN (G := G) (e := e) (i := i) (f := fun d => f ((numI d).toNat)) (t_rng h hn) (by rw [upto_0]; simp [SZ]; omega) (fun x hx => by
    obtain ⟨k, hk, rfl⟩ := mem_upto hx
    simpa using hf k hk)
  rw [this, upto_0, List.map_map]
  congr 2
theorem compL_filter {g : D → Sto → R (Option D)} {f : D → Option D} {S : Sto} : ∀ (m : List D), (∀ x ∈ m, g x S = .ok (f x) S) → compL g m S = .ok (m.filterMap f) S
  | [], _ => rfl
  | x :: m, h => by
    rw [compL, h x (by simp)]
    show (compL g m S).bind _ = _
    rw [compL_filter m fun y hy => h y (by simp [hy])]
    cases hx : f x <;> simp [R.bind, List.filterMap_cons, hx]
theorem e_compF {f : Nat → D} {p : Nat → Bool} {i n : Nat} {b c : Ex} (h : ev G b v S = .ok (.int (n : Int)) S) (hn : n < 100000) (hc : ∀ k, k < n → ev G c (setN (wipe v [i]) i (.va (.int (k : Int)))) S = .ok (.bl (p k)) S) (hf : ∀ k, k < n → p k = true → ev G e (setN (wipe v [i]) i (.va (.int (k : Int)))) S = .ok (f k) S) : ev G (.comp e [i] (.nm i) (.rng1 b) (.yes c)) v S = .ok (.lst ((List.range n).filterMap fun k => if p k = true then some (f k) else none)) S := by
  rw [ev, t_rng h hn]
  show (if (upto n 0).length < SZ then (compL _ (upto n 0) S).bind _ else _) = _
  rw [if_pos (by rw [upto_0]; simp [SZ]; omega)]
  refine (congrArg (fun r => R.bind r _) (compL_filter (f := fun d => if p ((numI d).toNat) = true then some (f ((numI d).toNat)) else none) (upto n 0) ?_)).trans ?_
  · intro x hx
    obtain ⟨k, hk, rfl⟩ := mem_upto hx
    show ((evc G (.yes c) _ S).nox.bind _) = _
    rw [evc]
    have e1 := hc k hk
    cases hp : p k with
    | true =>
      have e2 := hf k hk hp
      rw [hp] at e1
      simp [e1, e2, asB, R.nox, R.bind, hp]
    | false =>
      rw [hp] at e1
      simp [e1, asB, R.nox, R.bind, hp]
  · show R.ok _ _ = _
    rw [upto_0, List.filterMap_map]
    congr 2
end
/-- the coefficient at i, 0 past the end -/
def co (l : List Int) (i : Nat) : Int := l.getD i 0
theorem part_at_ok {n : Nat} {q : D} {l : List Int} {i : Nat} {S : Sto} (hq : q = .lst (l.map rI) ∨ q = .tup (l.map rI)) : callN P 100000 (n + 3) 24 [q, .int (i : Int)] S = .ok (rI (co l i)) S := by
  rw [call_run (n := n + 2) (f := ff24) (es := [q, .int (i : Int)]) rfl rfl rfl]
  show (xss _ bd24 [.va q, .va (.int i)] S).bind _ = _
  have v0 : ev (gaOf P 100000 (n + 2)) (.var 0) [.va q, .va (.int (i : Int))] S = .ok q S := e_var rfl
  have v1 : ev (gaOf P 100000 (n + 2)) (.var 1) [.va q, .va (.int (i : Int))] S = .ok (.int (i : Int)) S := e_var rfl
  have l0 : ev (gaOf P 100000 (n + 2)) (.len (.ex (.var 0))) [.va q, .va (.int (i : Int))] S = .ok (.int (l.length : Int)) S := by
    rcases hq with rfl | rfl
    · have := e_len v0; simpa using this
    · have := e_lenT v0; simpa using this
  have e : ev (gaOf P 100000 (n + 2)) (.ife (.cmp .lt (.var 1) (.len (.ex (.var 0)))) (.idx (.ex (.var 0)) (.var 1)) (.new 1 (.cons (.int 0) .nil))) [.va q, .va (.int (i : Int))] S = .ok (rI (co l i)) S := by
    rw [ev, e_cmp v1 l0 c_lt]
    by_cases z : i < l.length
    · have : decide ((i : Int) < (l.length : Int)) = true := by simpa using z
      rw [this]
      simp only [R.bind, asB, if_true]
      have a : atI (l.map rI) (i : Int) = some (rI (co l i)) := atI_map (by simp [co, z])
      rcases hq with rfl | rfl
      · exact e_idx v0 v1 a
      · exact e_idxT v0 v1 a
    · have : decide ((i : Int) < (l.length : Int)) = false := by simpa using z
      rw [this]
      simp only [R.bind, asB, Bool.false_eq_true, if_false]
      have : co l i = 0 := by simp [co]; simp [List.getElem?_eq_none (Nat.le_of_not_lt z)]
      rw [this]
      exact new_ratio1 (n := n) (e_evs e_int e_evs_nil)
  unfold bd24
  rw [x_ret e]
  rfl
theorem max_nat {a b : Nat} : (if (b : Int) > (a : Int) then (b : Int) else (a : Int)) = ((max a b : Nat) : Int) := by
  split <;> omega
def addZ (a b : List Int) : List Int := (List.range (max a.length b.length)).map fun i => co a i + co b i
def subZ (a b : List Int) : List Int := (List.range (max a.length b.length)).map fun i => co a i - co b i
section
variable {n : Nat} {p q : D} {a b : List Int} {S : Sto}
theorem numbers_less_ok (hp : p = .lst (a.map rI) ∨ p = .tup (a.map rI)) (hq : q = .lst (b.map rI) ∨ q = .tup (b.map rI)) (ha : a.length < 100000) (hb : b.length < 100000) : callN P 100000 (n + 4) 21 [p, q] S = .ok (.lst ((subZ a b).map rI)) S := by
  rw [call_run (n := n + 3) (f := ff21) (es := [p, q]) rfl rfl rfl]
  show (xss _ bd21 [.va p, .va q, .un] S).bind _ = _
  have h1 : ∀ l S, (gaOf P 100000 (n + 3)).call 24 l S = callN P 100000 (n + 3) 24 l S := fun _ _ => rfl
  have la : ev (gaOf P 100000 (n + 3)) (.len (.ex (.var 0))) [.va p, .va q, .un] S = .ok (.int (a.length : Int)) S := by
    rcases hp with rfl | rfl
    · have := e_len (G := gaOf P 100000 (n + 3)) (e_var (i := 0) (v := [.va (.lst (a.map rI)), .va q, .un]) (S := S) rfl); simpa using this
    · have := e_lenT (G := gaOf P 100000 (n + 3)) (e_var (i := 0) (v := [.va (.tup (a.map rI)), .va q, .un]) (S := S) rfl); simpa using this
  have lb : ev (gaOf P 100000 (n + 3)) (.len (.ex (.var 1))) [.va p, .va q, .un] S = .ok (.int (b.length : Int)) S := by
    rcases hq with rfl | rfl
    · have := e_len (G := gaOf P 100000 (n + 3)) (e_var (i := 1) (v := [.va p, .va (.lst (b.map rI)), .un]) (S := S) rfl); simpa using this
    · have := e_lenT (G := gaOf P 100000 (n + 3)) (e_var (i := 1) (v := [.va p, .va (.tup (b.map rI)), .un]) (S := S) rfl); simpa using this
  have m : ev (gaOf P 100000 (n + 3)) (.max2 (.len (.ex (.var 0))) (.len (.ex (.var 1)))) [.va p, .va q, .un] S = .ok (.int ((max a.length b.length : Nat) : Int)) S := by
    rw [ev, la]; simp only [R.bind, lb]; rw [max_nat]
  unfold bd21
  rw [x_ret (e_compR (f := fun k => rI (co a k - co b k)) m (by omega) fun k hk => e_bin (x := rI (co a k)) (y := rI (co b k)) (S1 := S) (by
      simp [ev, evs, R.bind, getN, setN, wipe, h1, part_at_ok hp]) (by
      simp [ev, evs, R.bind, getN, setN, wipe, h1, part_at_ok hq]) B_sub)]
  simp [R.bind, finF, subZ]
theorem numbers_sum_ok (hp : p = .lst (a.map rI) ∨ p = .tup (a.map rI)) (hq : q = .lst (b.map rI) ∨ q = .tup (b.map rI)) (ha : a.length < 100000) (hb : b.length < 100000) : callN P 100000 (n + 4) 19 [p, q] S = .ok (.lst ((addZ a b).map rI)) S := by
  rw [call_run (n := n + 3) (f := ff19) (es := [p, q]) rfl rfl rfl]
  show (xss _ bd19 [.va p, .va q, .un] S).bind _ = _
  have h1 : ∀ l S, (gaOf P 100000 (n + 3)).call 24 l S = callN P 100000 (n + 3) 24 l S := fun _ _ => rfl
  have la : ev (gaOf P 100000 (n + 3)) (.len (.ex (.var 0))) [.va p, .va q, .un] S = .ok (.int (a.length : Int)) S := by
    rcases hp with rfl | rfl
    · have := e_len (G := gaOf P 100000 (n + 3)) (e_var (i := 0) (v := [.va (.lst (a.map rI)), .va q, .un]) (S := S) rfl); simpa using this
    · have := e_lenT (G := gaOf P 100000 (n + 3)) (e_var (i := 0) (v := [.va (.tup (a.map rI)), .va q, .un]) (S := S) rfl); simpa using this
  have lb : ev (gaOf P 100000 (n + 3)) (.len (.ex (.var 1))) [.va p, .va q, .un] S = .ok (.int (b.length : Int)) S := by
    rcases hq with rfl | rfl
    · have := e_len (G := gaOf P 100000 (n + 3)) (e_var (i := 1) (v := [.va p, .va (.lst (b.map rI)), .un]) (S := S) rfl); simpa using this
    · have := e_lenT (G := gaOf P 100000 (n + 3)) (e_var (i := 1) (v := [.va p, .va (.tup (b.map rI)), .un]) (S := S) rfl); simpa using this
  have m : ev (gaOf P 100000 (n + 3)) (.max2 (.len (.ex (.var 0))) (.len (.ex (.var 1)))) [.va p, .va q, .un] S = .ok (.int ((max a.length b.length : Nat) : Int)) S := by
    rw [ev, la]; simp only [R.bind, lb]; rw [max_nat]
  unfold bd19
  rw [x_ret (e_compR (f := fun k => rI (co a k + co b k)) m (by omega) fun k hk => e_bin (x := rI (co a k)) (y := rI (co b k)) (S1 := S) (by
      simp [ev, evs, R.bind, getN, setN, wipe, h1, part_at_ok hp]) (by
      simp [ev, evs, R.bind, getN, setN, wipe, h1, part_at_ok hq]) B_add)]
  simp [R.bind, finF, addZ]
end
end Mi.L71

set_option linter.all false
set_option maxRecDepth 100000
set_option maxHeartbeats 1000000
namespace Mi.L71
open Mi
def small (l : List Int) : Bool := l.all fun x => decide (x.natAbs < 18446744073709551616)
theorem small_co {l : List Int} (h : small l = true) (i : Nat) : (co l i).natAbs < 18446744073709551616 := by
  unfold co
  rw [List.getD_eq_getElem?_getD]
  cases hx : l[i]? with
  | none => simp
  | some x =>
    have := List.all_eq_true.1 h x (List.mem_of_getElem? hx)
    simpa using this
def cvP (b : List Int) (d i : Nat) : Bool := decide (i ≤ d) && decide (d - i < b.length)
def cvL (a b : List Int) (d : Nat) : List Int := (List.range a.length).filterMap fun i => if cvP b d i = true then some (co a i * co b (d - i)) else none
def mulZ (a b : List Int) : List Int := if 0 < a.length ∧ 0 < b.length then (List.range (a.length + b.length - 1)).map fun d => (cvL a b d).sum else []
def sumD : List Int → D
  | [] => .int 0
  | l => rI l.sum
theorem sumD_num (l : List Int) : isNum (sumD l) := by
  cases l with
  | nil => exact isNum_i 0
  | cons x l => exact isNum_r _
theorem sumD_val (l : List Int) : numI (sumD l) = l.sum := by
  cases l <;> rfl
theorem sumD_ok {n : Nat} (l : List Int) (S : Sto) : sumL (gaOf P 100000 (n + 3)) (l.map rI) (.int 0) S = .ok (sumD l) S := by
  cases l with
  | nil => rfl
  | cons x l => exact sum_rI
section
variable {n : Nat} {a b : List Int} {S : Sto}
theorem times_in {d : Nat} {w : Sl} (hs : small b = true) (ha : a.length < 100000) : ev (gaOf P 100000 (n + 3)) (.sum (.ex (.comp (.bin .mul (.idx (.ex (.var 0)) (.var 4)) (.idx (.ex (.var 1)) (.bin .sub (.var 3) (.var 4)))) [4] (.nm 4) (.rng1 (.len (.ex (.var 0)))) (.yes (.chn .le .lt (.int 0) (.bin .sub (.var 3) (.var 4)) (.len (.ex (.var 1)))))))) [.va (.tup (a.map rI)), .va (.tup (b.map rI)), w, .va (.int (d : Int)), .un] S = .ok (sumD (cvL a b d)) S := by
  have la : ev (gaOf P 100000 (n + 3)) (.len (.ex (.var 0))) [.va (.tup (a.map rI)), .va (.tup (b.map rI)), w, .va (.int (d : Int)), .un] S = .ok (.int (a.length : Int)) S := by
    have := e_lenT (G := gaOf P 100000 (n + 3)) (e_var (i := 0) (v := [.va (.tup (a.map rI)), .va (.tup (b.map rI)), w, .va (.int (d : Int)), .un]) (S := S) rfl)
    simpa using this
  have e := e_compF (G := gaOf P 100000 (n + 3)) (S := S) (e := .bin .mul (.idx (.ex (.var 0)) (.var 4)) (.idx (.ex (.var 1)) (.bin .sub (.var 3) (.var 4)))) (c := .chn .le .lt (.int 0) (.bin .sub (.var 3) (.var 4)) (.len (.ex (.var 1)))) (i := 4) (f := fun k => rI (co a k * co b (d - k))) (p := cvP b d) la ha
    (fun k hk => by
      show ev _ _ [.va (.tup (a.map rI)), .va (.tup (b.map rI)), w, .va (.int (d : Int)), .va (.int (k : Int))] S = _
      have v3 : ev (gaOf P 100000 (n + 3)) (.bin .sub (.var 3) (.var 4)) [.va (.tup (a.map rI)), .va (.tup (b.map rI)), w, .va (.int (d : Int)), .va (.int (k : Int))] S = .ok (.int ((d : Int) - (k : Int))) S := e_bin (e_var rfl) (e_var rfl) b_sub
      have lb := e_lenT (G := gaOf P 100000 (n + 3)) (e_var (i := 1) (v := [.va (.tup (a.map rI)), .va (.tup (b.map rI)), w, .va (.int (d : Int)), .va (.int (k : Int))]) (S := S) rfl)
      rw [List.length_map] at lb
      rw [ev, e_int, R.bind]
      simp only [v3, R.bind, cmpD, cmpP, lb]
      by_cases z : k ≤ d
      · have : (0 : Int) ≤ (d : Int) - (k : Int) := by omega
        simp only [this, decide_true, if_true]
        congr 2
        simp only [cvP, z, decide_true, Bool.true_and, decide_eq_decide]
        omega
      · have : ¬ (0 : Int) ≤ (d : Int) - (k : Int) := by omega
        simp only [this, decide_false, Bool.false_eq_true, if_false, cvP, z, Bool.false_and])
    (fun k hk hp => by
      show ev _ _ [.va (.tup (a.map rI)), .va (.tup (b.map rI)), w, .va (.int (d : Int)), .va (.int (k : Int))] S = _
      have v3 : ev (gaOf P 100000 (n + 3)) (.bin .sub (.var 3) (.var 4)) [.va (.tup (a.map rI)), .va (.tup (b.map rI)), w, .va (.int (d : Int)), .va (.int (k : Int))] S = .ok (.int ((d : Int) - (k : Int))) S := e_bin (e_var rfl) (e_var rfl) b_sub
      have hp' : k ≤ d ∧ d - k < b.length := by simpa [cvP] using hp
      rw [show ((d : Int) - (k : Int)) = ((d - k : Nat) : Int) by omega] at v3
      exact e_bin (e_idxT (e_var rfl) (e_var rfl) (atI_map (x := co a k) (by simp [co, hk]))) (e_idxT (e_var rfl) v3 (atI_map (x := co b (d - k)) (by simp [co, hp'.2]))) (B_mul (mulOk_l (small_co hs (d - k)))))
  have ee : (List.range a.length).filterMap (fun k => if cvP b d k = true then some (rI (co a k * co b (d - k))) else none) = (cvL a b d).map rI := by
    rw [cvL, List.map_filterMap]
    have : (fun k => if cvP b d k = true then some (rI (co a k * co b (d - k))) else none) = (fun x => Option.map rI (if cvP b d x = true then some (co a x * co b (d - x)) else none)) := by
      funext i
      split <;> rfl
    rw [this]
  rw [ee] at e
  rw [ev, evq, e]
  exact sumD_ok (n := n) (cvL a b d) S
end
end Mi.L71

set_option linter.all false
set_option maxRecDepth 100000
set_option maxHeartbeats 1000000
namespace Mi.L71
open Mi
def timesD (a b : List Int) : List D := if 0 < a.length ∧ 0 < b.length then (List.range (a.length + b.length - 1)).map fun d => sumD (cvL a b d) else []
theorem timesD_num (a b : List Int) : ∀ d ∈ timesD a b, isNum d := by
  intro d h
  unfold timesD at h
  split at h
  · obtain ⟨k, _, rfl⟩ := List.mem_map.1 h
    exact sumD_num _
  · cases h
theorem timesD_val (a b : List Int) : (timesD a b).map numI = mulZ a b := by
  unfold timesD mulZ
  split
  · rw [List.map_map]
    exact List.map_congr_left fun d _ => sumD_val _
  · rfl
theorem timesD_len (a b : List Int) : (timesD a b).length ≤ a.length + b.length := by
  unfold timesD
  split
  · simp
  · simp
theorem numbers_times_ok {n : Nat} {a b : List Int} {S : Sto} (hs : small b = true) (ha : a.length < 40000) (hb : b.length < 40000) : callN P 100000 (n + 4) 22 [.tup (a.map rI), .tup (b.map rI)] S = .ok (.lst (timesD a b)) S := by
  rw [call_run (n := n + 3) (f := ff22) (es := [.tup (a.map rI), .tup (b.map rI)]) rfl rfl rfl]
  show (xss _ bd22 [.va (.tup (a.map rI)), .va (.tup (b.map rI)), .un, .un, .un] S).bind _ = _
  have la := e_lenT (G := gaOf P 100000 (n + 3)) (e_var (i := 0) (v := [.va (.tup (a.map rI)), .va (.tup (b.map rI)), .un, .un, .un]) (S := S) rfl)
  have lb := e_lenT (G := gaOf P 100000 (n + 3)) (e_var (i := 1) (v := [.va (.tup (a.map rI)), .va (.tup (b.map rI)), .un, .un, .un]) (S := S) rfl)
  rw [List.length_map] at la lb
  have hc : ev (gaOf P 100000 (n + 3)) (.and (.cons (.cmp .gt (.len (.ex (.var 0))) (.int 0)) (.cons (.cmp .gt (.len (.ex (.var 1))) (.int 0)) .nil))) [.va (.tup (a.map rI)), .va (.tup (b.map rI)), .un, .un, .un] S = .ok (.bl (decide ((0 : Int) < (a.length : Int)) && decide ((0 : Int) < (b.length : Int)))) S :=
    e_and2 (e_cmp la e_int c_gt) (e_cmp lb e_int c_gt)
  have main : ∀ m : Nat, m < 100000 → (xss (gaOf P 100000 (n + 3)) (.cons (.ret (.comp (.sum (.ex (.comp (.bin .mul (.idx (.ex (.var 0)) (.var 4)) (.idx (.ex (.var 1)) (.bin .sub (.var 3) (.var 4)))) [4] (.nm 4) (.rng1 (.len (.ex (.var 0)))) (.yes (.chn .le .lt (.int 0) (.bin .sub (.var 3) (.var 4)) (.len (.ex (.var 1)))))))) [3] (.nm 3) (.rng1 (.var 2)) .no)) .nil) [.va (.tup (a.map rI)), .va (.tup (b.map rI)), .va (.int (m : Int)), .un, .un] S) = .ok (.rt (.lst ((List.range m).map fun d => sumD (cvL a b d)))) S := fun m hm =>
    x_ret (e_compR (e_var rfl) hm fun k _ => times_in hs (by omega))
  unfold bd22
  by_cases z : 0 < a.length ∧ 0 < b.length
  · rw [x_cons (x_asg (d := .int ((a.length + b.length - 1 : Nat) : Int)) (S' := S) (by
      rw [ev, hc]
      have : (decide ((0 : Int) < (a.length : Int)) && decide ((0 : Int) < (b.length : Int))) = true := by simp; omega
      rw [this]
      simp only [R.bind, asB, if_true]
      have := e_bin (e_bin la lb b_add) (e_int (n := 1)) b_sub
      rw [this]
      congr 2; omega))]
    have := main (a.length + b.length - 1) (by omega)
    show (xss _ _ [.va (.tup (a.map rI)), .va (.tup (b.map rI)), .va (.int ((a.length + b.length - 1 : Nat) : Int)), .un, .un] S).bind _ = _
    rw [this, timesD, if_pos z]; rfl
  · rw [x_cons (x_asg (d := .int ((0 : Nat) : Int)) (S' := S) (by
      rw [ev, hc]
      have : (decide ((0 : Int) < (a.length : Int)) && decide ((0 : Int) < (b.length : Int))) = false := by
        cases h : (decide ((0 : Int) < (a.length : Int)) && decide ((0 : Int) < (b.length : Int))) with
        | false => rfl
        | true => simp only [Bool.and_eq_true, decide_eq_true_eq] at h; omega
      rw [this]
      simp only [R.bind, asB, Bool.false_eq_true, if_false]
      exact e_int))]
    have := main 0 (by omega)
    show (xss _ _ [.va (.tup (a.map rI)), .va (.tup (b.map rI)), .va (.int ((0 : Nat) : Int)), .un, .un] S).bind _ = _
    rw [this, timesD, if_neg z]; rfl
end Mi.L71

set_option linter.all false
set_option maxRecDepth 100000
set_option maxHeartbeats 1000000
namespace Mi.L71
open Mi
theorem new_poly {n : Nat} {es : Exs} {v : Env} {S S' : Sto} {q : D} {l : List D} (h : evs (gaOf P 100000 (n + 6)) es v S = .ok [q] S') (hq : q = .lst l ∨ q = .tup l) (hn : ∀ d ∈ l, isNum d) (hl : l.length < 100000) : ev (gaOf P 100000 (n + 6)) (.new 0 es) v S = .ok (pZ (l.map numI)) S' := by
  rw [ev, h]
  show (R.bind ((callN P 100000 (n + 6) 25 [q] S')) _) = _
  rw [poly_init hq hn hl]
  rfl
theorem new_polyZ {n : Nat} {es : Exs} {v : Env} {S S' : Sto} {q : D} {l : List Int} (h : evs (gaOf P 100000 (n + 6)) es v S = .ok [q] S') (hq : q = .lst (l.map rI) ∨ q = .tup (l.map rI)) (hl : l.length < 100000) : ev (gaOf P 100000 (n + 6)) (.new 0 es) v S = .ok (pZ l) S' := by
  have := new_poly h hq (by intro d hd; obtain ⟨x, _, rfl⟩ := List.mem_map.1 hd; exact isNum_r x) (by simpa using hl)
  rw [this, List.map_map]
  congr 2
  have : (numI ∘ rI) = id := rfl
  rw [this, List.map_id]
theorem is_number_p {n : Nat} {l : List Int} {S : Sto} : callN P 100000 (n + 2) 18 [pT l] S = .ok (.bl false) S := by
  have hc : ∀ l S, (gaOf P 100000 (n + 1)).call 12 l S = callN P 100000 (n + 1) 12 l S := fun _ _ => rfl
  have c0 : (gaOf P 100000 (n + 1)).cls 0 = some cl0 := rfl
  have c1 : (gaOf P 100000 (n + 1)).cls 1 = some cl1 := rfl
  have k : knD (gaOf P 100000 (n + 1)) (pT l) = true := rfl
  have ri : callN P 100000 (n + 1) 12 [pT l] S = .ok (.bl false) S := call_is_integer rfl
  have t : tyIs (.cls 1) (pT l) = false := rfl
  rw [call_run (n := n + 1) (f := ff18) (es := [pT l]) rfl rfl rfl]
  simp [finF, padU, ff18, bd18, xss, xs1, ev, evs, evOr, R.bind, getN, hc, ri, asB, k, knT, t, c1]
section
variable {G : Ga} {v : Env} {S S' : Sto} {l : List Int} {e : Ex}
theorem p0 (c0 : G.cls 0 = some cl0) (h : ev G e v S = .ok (pT l) S') : ev G (.fld e 0) v S = .ok (.tup (l.map rI)) S' := by
  rw [ev, h]; simp [R.bind, pT, c0, cl0, lookF]
theorem p1 (c0 : G.cls 0 = some cl0) (h : ev G e v S = .ok (pT l) S') : ev G (.fld e 1) v S = .ok (.int ((l.length : Int) - 1)) S' := by
  rw [ev, h]; simp [R.bind, pT, c0, cl0, lookF]
end
theorem subZ_len (a b : List Int) : (subZ a b).length = max a.length b.length := by simp [subZ]
theorem poly_sub {n : Nat} {a b : List Int} {S : Sto} (ha : a.length < 40000) (hb : b.length < 40000) : callN P 100000 (n + 7) 27 [pT a, pT b] S = .ok (pZ (subZ a b)) S := by
  have c0 : (gaOf P 100000 (n + 6)).cls 0 = some cl0 := rfl
  have h1 : ∀ l S, (gaOf P 100000 (n + 6)).call 18 l S = callN P 100000 (n + 6) 18 l S := fun _ _ => rfl
  have h2 : ∀ l S, (gaOf P 100000 (n + 6)).call 21 l S = callN P 100000 (n + 6) 21 l S := fun _ _ => rfl
  rw [call_run (n := n + 6) (f := ff27) (es := [pT a, pT b]) rfl rfl rfl]
  show (xss _ bd27 [.va (pT a), .va (pT b)] S).bind _ = _
  have k : knD (gaOf P 100000 (n + 6)) (pT b) = true := rfl
  have t : tyIs (.cls 0) (pT b) = true := rfl
  have s : ev (gaOf P 100000 (n + 6)) (.call 21 (.cons (.fld (.var 0) 0) (.cons (.fld (.var 1) 0) .nil))) [.va (pT a), .va (pT b)] S = .ok (.lst ((subZ a b).map rI)) S := by
    rw [ev, e_evs (p0 c0 (e_var rfl)) (e_evs (p0 c0 (e_var rfl)) e_evs_nil)]
    exact numbers_less_ok (n := n + 2) (.inr rfl) (.inr rfl) (by omega) (by omega)
  have e := new_polyZ (e_evs s e_evs_nil) (.inl rfl) (by rw [subZ_len]; omega)
  simp [bd27, xss, xs1, ↓e, ev, evs, R.bind, getN, h1, is_number_p, asB, k, knT, t, c0, finF]
theorem poly_mul {n : Nat} {a b : List Int} {S : Sto} (hs : small b = true) (ha : a.length < 40000) (hb : b.length < 40000) : callN P 100000 (n + 7) 28 [pT a, pT b] S = .ok (pZ (mulZ a b)) S := by
  have c0 : (gaOf P 100000 (n + 6)).cls 0 = some cl0 := rfl
  have h1 : ∀ l S, (gaOf P 100000 (n + 6)).call 18 l S = callN P 100000 (n + 6) 18 l S := fun _ _ => rfl
  rw [call_run (n := n + 6) (f := ff28) (es := [pT a, pT b]) rfl rfl rfl]
  show (xss _ bd28 [.va (pT a), .va (pT b), .un] S).bind _ = _
  have k : knD (gaOf P 100000 (n + 6)) (pT b) = true := rfl
  have t : tyIs (.cls 0) (pT b) = true := rfl
  have s : ev (gaOf P 100000 (n + 6)) (.call 22 (.cons (.fld (.var 0) 0) (.cons (.fld (.var 1) 0) .nil))) [.va (pT a), .va (pT b), .un] S = .ok (.lst (timesD a b)) S := by
    rw [ev, e_evs (p0 c0 (e_var rfl)) (e_evs (p0 c0 (e_var rfl)) e_evs_nil)]
    exact numbers_times_ok (n := n + 2) hs (by omega) (by omega)
  have e := new_poly (e_evs s e_evs_nil) (.inl rfl) (timesD_num a b) (by have := timesD_len a b; omega)
  rw [timesD_val] at e
  simp [bd28, xss, xs1, ↓e, ev, evs, R.bind, getN, h1, is_number_p, asB, k, knT, t, c0, finF]
theorem poly_muli {n : Nat} {a : List Int} {m : Int} {S : Sto} (hs : m.natAbs < 18446744073709551616) (ha : a.length < 40000) : callN P 100000 (n + 7) 28 [pT a, .int m] S = .ok (pZ (a.map (· * m))) S := by
  have c0 : (gaOf P 100000 (n + 6)).cls 0 = some cl0 := rfl
  have h1 : ∀ l S, (gaOf P 100000 (n + 6)).call 18 l S = callN P 100000 (n + 6) 18 l S := fun _ _ => rfl
  rw [call_run (n := n + 6) (f := ff28) (es := [pT a, .int m]) rfl rfl rfl]
  show (xss _ bd28 [.va (pT a), .va (.int m), .un] S).bind _ = _
  have s : ev (gaOf P 100000 (n + 6)) (.comp (.bin .mul (.var 2) (.var 1)) [2] (.nm 2) (.seq (.ex (.fld (.var 0) 0))) .no) [.va (pT a), .va (.int m), .un] S = .ok (.lst ((a.map rI).map fun d => rI (numI d * m))) S :=
    e_compN (t_seqT (p0 c0 (e_var rfl))) (by simp [SZ]; omega) fun x hx => by
      obtain ⟨y, _, rfl⟩ := List.mem_map.1 hx
      exact e_bin (e_var rfl) (e_var rfl) (B_muli (mulOk_l hs))
  rw [List.map_map, show ((fun d => rI (numI d * m)) ∘ rI) = rI ∘ (· * m) from rfl, ← List.map_map] at s
  have e := new_polyZ (e_evs s e_evs_nil) (.inl rfl) (by simp; omega)
  simp [bd28, xss, xs1, ↓e, ev, evs, R.bind, getN, h1, is_number_i, asB, finF]
end Mi.L71

set_option linter.all false
set_option maxRecDepth 100000
set_option maxHeartbeats 1000000
namespace Mi.L71
open Mi
theorem forL_inv {f : D → Env → Sto → R Fl} {S : Sto} : ∀ (l : List D) (I : Nat → Env), (∀ k x, l[k]? = some x → f x (I k) S = .ok (.nx (I (k + 1))) S) → forL f l (I 0) S = .ok (.nx (I l.length)) S
  | [], I, _ => rfl
  | x :: l, I, h => by
    rw [forL, h 0 x rfl]
    show forL f l (I (0 + 1)) S = _
    exact forL_inv l (fun k => I (k + 1)) fun k y hy => h (k + 1) y hy
/-- product_of -/
def prodZ : List (List Int) → List Int → List Int
  | [], a => a
  | b :: l, a => prodZ l (trim (mulZ a b))
/-- the product's factors are small -/
def prodOk : List (List Int) → List Int → Bool
  | [], a => true
  | b :: l, a => decide (a.length < 40000) && (decide (b.length < 40000) && small b) && prodOk l (trim (mulZ a b))
theorem B_pmul {n : Nat} {a b : List Int} {S : Sto} (hs : small b = true) (ha : a.length < 40000) (hb : b.length < 40000) : binop (gaOf P 100000 (n + 7)) .mul (pT a) (pT b) S = .ok (pZ (mulZ a b)) S := by
  show (callN P 100000 (n + 7) 28 [pT a, pT b] S).nox = _
  rw [poly_mul hs ha hb]; rfl
theorem B_pmuli {n : Nat} {a : List Int} {m : Int} {S : Sto} (hs : m.natAbs < 18446744073709551616) (ha : a.length < 40000) : binop (gaOf P 100000 (n + 7)) .mul (pT a) (.int m) S = .ok (pZ (a.map (· * m))) S := by
  show (callN P 100000 (n + 7) 28 [pT a, .int m] S).nox = _
  rw [poly_muli hs ha]; rfl
theorem B_psub {n : Nat} {a b : List Int} {S : Sto} (ha : a.length < 40000) (hb : b.length < 40000) : binop (gaOf P 100000 (n + 7)) .sub (pT a) (pT b) S = .ok (pZ (subZ a b)) S := by
  show (callN P 100000 (n + 7) 27 [pT a, pT b] S).nox = _
  rw [poly_sub ha hb]; rfl
def loopPr (G : Ga) : D → Env → Sto → R Fl := fun x v S => match bindPt (.nm 2) x v with
  | some w => xss G (.cons (.asg 1 (.bin .mul (.var 1) (.var 2))) .nil) w S
  | none => .bad
theorem loopPr_ok {n : Nat} {S : Sto} {w : Sl} : ∀ (l : List (List Int)) (a : List Int) (z : Sl), prodOk l a = true → ∃ z', forL (loopPr (gaOf P 100000 (n + 7))) (l.map pT) [w, .va (pT a), z] S = .ok (.nx [w, .va (pT (prodZ l a)), z']) S
  | [], a, z, _ => ⟨z, rfl⟩
  | b :: l, a, z, h => by
    rw [prodOk, Bool.and_eq_true, Bool.and_eq_true, Bool.and_eq_true] at h
    obtain ⟨⟨h1, h2, h3⟩, h4⟩ := h
    obtain ⟨z', e⟩ := loopPr_ok l (trim (mulZ a b)) (.va (pT b)) h4
    refine ⟨z', ?_⟩
    rw [List.map_cons, forL]
    have : loopPr (gaOf P 100000 (n + 7)) (pT b) [w, .va (pT a), z] S = .ok (.nx [w, .va (pZ (mulZ a b)), .va (pT b)]) S := by
      show xss _ _ [w, .va (pT a), .va (pT b)] S = _
      rw [x_cons (x_asg (e_bin (e_var rfl) (e_var rfl) (B_pmul h3 (by simpa using h1) (by simpa using h2)))), xss]
      rfl
    rw [this]
    exact e
theorem product_ok {n : Nat} {l : List (List Int)} {S : Sto} (h : prodOk l (trim [1]) = true) : callN P 100000 (n + 8) 9 [.lst (l.map pT)] S = .ok (pT (prodZ l (trim [1]))) S := by
  rw [call_run (n := n + 7) (f := ff9) (es := [.lst (l.map pT)]) rfl rfl rfl]
  show (xss _ bd9 [.va (.lst (l.map pT)), .un, .un] S).bind _ = _
  unfold bd9
  have e : ev (gaOf P 100000 (n + 7)) (.new 0 (.cons (.tup (.cons (.int 1) .nil)) .nil)) [.va (.lst (l.map pT)), .un, .un] S = .ok (pT (trim [1])) S :=
    new_poly (l := [.int 1]) (q := .tup [.int 1]) (by simp [ev, evs, R.bind, SZ]) (.inr rfl) (by intro d hd; simp at hd; subst hd; exact isNum_i 1) (by decide)
  rw [x_cons (x_asg e)]
  obtain ⟨z', e2⟩ := loopPr_ok (n := n) (S := S) (w := .va (.lst (l.map pT))) l (trim [1]) .un h
  rw [x_cons (v' := [.va (.lst (l.map pT)), .va (pT (prodZ l (trim [1]))), z']) (S' := S) (by
    rw [xs1, t_seq (e_var rfl)]
    exact e2)]
  rw [x_ret (e_var rfl)]
  rfl
end Mi.L71

set_option linter.all false
set_option maxRecDepth 100000
set_option maxHeartbeats 1000000
namespace Mi.L71
open Mi
def chN (k : Nat) (a b : List Int) : List Int := trim (subZ (trim (mulZ (trim [-(1 + (k : Int)) - 1, 1]) b)) (trim (a.map (· * (1 + (k : Int))))))
def chZ : Nat → List Int
  | 0 => trim [1]
  | 1 => trim [-1, 1]
  | k + 2 => chN k (chZ k) (chZ (k + 1))
theorem mulZ_len (a b : List Int) : (mulZ a b).length ≤ a.length + b.length := by
  rw [← timesD_val, List.length_map]; exact timesD_len a b
theorem getN_nth {α : Type} : ∀ (l : List α) (n : Nat), getN l n = l[n]?
  | [], _ => by simp [getN]
  | x :: l, 0 => rfl
  | x :: l, n + 1 => by rw [getN, getN_nth l n]; simp
def chS (m k : Nat) : Env := [.va (.int (m : Int)), .ol ((List.range (k + 2)).map fun j => pT (chZ j)), match k with | 0 => .un | k + 1 => .va (.int (1 + (k : Int)))]
theorem e_neg {G : Ga} {e : Ex} {v : Env} {S S' : Sto} {i : Int} (h : ev G e v S = .ok (.int i) S') : ev G (.neg e) v S = .ok (.int (-i)) S' := by
  rw [ev, h]; rfl
theorem e_own {G : Ga} {o : Nat} {i : Ex} {v : Env} {S S' : Sto} {l : List D} {j : Int} {d : D} (h : getN v o = some (.ol l)) (hi : ev G i v S = .ok (.int j) S') (hd : atI l j = some d) : ev G (.idx (.own o) i) v S = .ok d S' := by
  rw [ev, evq, h]; simp only [R.bind, hi, hd]
theorem atI_rng {f : Nat → D} {n k : Nat} (h : k < n) : atI ((List.range n).map f) (k : Int) = some (f k) := by
  rw [atI_nat (by omega) (by simpa using h), Int.toNat_natCast]; simp [h]
theorem x_app {G : Ga} {i : Nat} {e : Ex} {v : Env} {S S' : Sto} {l : List D} {d : D} (h : getN v i = some (.ol l)) (he : ev G e v S = .ok d S') (hl : l.length < SZ) : xs1 G (.app i e) v S = .ok (.nx (setN v i (.ol (l ++ [d])))) S' := by
  rw [xs1, h]; simp only [he, R.bind, hl, if_true]
theorem trim_lt {l : List Int} {n : Nat} (h : l.length < n) : (trim l).length < n := Nat.lt_of_le_of_lt (trim_len l) h
theorem charlier_step {n m k : Nat} {S : Sto} (h1 : (chZ k).length < 30000) (h2 : (chZ (k + 1)).length < 30000) (hs : small (chZ (k + 1)) = true) (hk : k < 10000) :
    (match bindPt (.nm 2) (.int (1 + (k : Int))) (chS m k) with
    | some w => xss (gaOf P 100000 (n + 7)) (.cons (.app 1 (.bin .sub (.bin .mul (.new 0 (.cons (.tup (.cons (.bin .sub (.neg (.var 2)) (.int 1)) (.cons (.int 1) .nil))) .nil)) (.idx (.own 1) (.var 2))) (.bin .mul (.idx (.own 1) (.bin .sub (.var 2) (.int 1))) (.var 2)))) .nil) w S
    | none => .bad) = .ok (.nx (chS m (k + 1))) S := by
  show xss _ _ [.va (.int (m : Int)), .ol ((List.range (k + 2)).map fun j => pT (chZ j)), .va (.int (1 + (k : Int)))] S = _
  generalize hv : ([.va (.int (m : Int)), .ol ((List.range (k + 2)).map fun j => pT (chZ j)), .va (.int (1 + (k : Int)))] : Env) = v
  have v1 : getN v 1 = some (.ol ((List.range (k + 2)).map fun j => pT (chZ j))) := by subst hv; rfl
  have v2 : ev (gaOf P 100000 (n + 7)) (.var 2) v S = .ok (.int (1 + (k : Int))) S := e_var (by subst hv; rfl)
  have ep : ev (gaOf P 100000 (n + 7)) (.new 0 (.cons (.tup (.cons (.bin .sub (.neg (.var 2)) (.int 1)) (.cons (.int 1) .nil))) .nil)) v S = .ok (pZ [-(1 + (k : Int)) - 1, 1]) S := by
    have := new_poly (n := n + 1) (es := .cons (.tup (.cons (.bin .sub (.neg (.var 2)) (.int 1)) (.cons (.int 1) .nil))) .nil) (v := v) (S := S) (S' := S) (l := [.int (-(1 + (k : Int)) - 1), .int 1]) (q := .tup [.int (-(1 + (k : Int)) - 1), .int 1]) (e_evs (by
      rw [ev, e_evs (e_bin (e_neg v2) e_int b_sub) (e_evs e_int e_evs_nil)]; rfl) e_evs_nil) (.inr rfl) (by intro d hd; simp at hd; rcases hd with rfl | rfl <;> exact isNum_i _) (by simp)
    simpa using this
  have ea : ev (gaOf P 100000 (n + 7)) (.idx (.own 1) (.var 2)) v S = .ok (pT (chZ (k + 1))) S := e_own v1 v2 (by
    have := atI_rng (f := fun j => pT (chZ j)) (n := k + 2) (k := k + 1) (by omega)
    rw [← this]; congr 1; omega)
  have eb : ev (gaOf P 100000 (n + 7)) (.idx (.own 1) (.bin .sub (.var 2) (.int 1))) v S = .ok (pT (chZ k)) S := e_own v1 (e_bin v2 e_int b_sub) (by
    have := atI_rng (f := fun j => pT (chZ j)) (n := k + 2) (k := k) (by omega)
    rw [← this]; congr 1; omega)
  have l1 : (trim [-(1 + (k : Int)) - 1, 1]).length < 3 := trim_lt (by simp)
  have l2 : (trim (mulZ (trim [-(1 + (k : Int)) - 1, 1]) (chZ (k + 1)))).length < 40000 := trim_lt (by
    have := mulZ_len (trim [-(1 + (k : Int)) - 1, 1]) (chZ (k + 1)); omega)
  have l3 : (trim ((chZ k).map (· * (1 + (k : Int))))).length < 40000 := trim_lt (by simp; omega)
  have e := e_bin (e_bin ep ea (B_pmul hs (by omega) (by omega))) (e_bin eb v2 (B_pmuli (by omega) (by omega))) (B_psub l2 l3)
  rw [x_cons (x_app v1 e (by simp [SZ]; omega)), xss]
  subst hv
  show R.ok (Fl.nx [_, .ol (((List.range (k + 2)).map fun j => pT (chZ j)) ++ [pT (chZ (k + 2))]), _]) S = .ok (.nx (chS m (k + 1))) S
  rw [chS, List.range_succ (n := k + 2), List.map_append]
  rfl
end Mi.L71

set_option linter.all false
set_option maxRecDepth 100000
set_option maxHeartbeats 1000000
namespace Mi.L71
open Mi
def chOk (m : Nat) : Bool := (List.range (m + 1)).all fun k => decide ((chZ k).length < 30000) && small (chZ k)
theorem chOk_at {m k : Nat} (h : chOk m = true) (hk : k ≤ m) : (chZ k).length < 30000 ∧ small (chZ k) = true := by
  have := List.all_eq_true.1 h k (by simp; omega)
  simpa using this
theorem t_rng2 {G : Ga} {a b : Ex} {v : Env} {S S1 S' : Sto} {i j : Int} (ha : ev G a v S = .ok (.int i) S1) (hb : ev G b v S1 = .ok (.int j) S') (h1 : 0 ≤ i ∧ i < 100000) (h2 : 0 ≤ j ∧ j < 100000) : evt G (.rng2 a b) v S = .ok (upto (j - i).toNat i) S' := by
  have hj : ∀ i j : Int, ((-4611686018427387904 ≤ i ∧ i < 4611686018427387904) ∧ -4611686018427387904 ≤ j ∧ j < 4611686018427387904) → (R.ok (D.int i) S1).bind (fun x S => (R.ok (D.int j) S').bind fun y S => match x, y with
    | .int i, .int j => if (-4611686018427387904 ≤ i ∧ i < 4611686018427387904) ∧ -4611686018427387904 ≤ j ∧ j < 4611686018427387904 then R.ok (upto (j - i).toNat i) S else .bad
    | _, _ => .bad) = .ok (upto (j - i).toNat i) S' := fun i j h => if_pos h
  have := hj i j (by omega)
  rw [evt, ha]
  show (ev G b v S1).bind _ = _
  rw [hb]
  exact this
theorem charlier_ok {n m : Nat} {S : Sto} (hm : m < 10000) (h : chOk m = true) : callN P 100000 (n + 8) 10 [.int (m : Int)] S = .ok (pT (chZ m)) S := by
  rw [call_run (n := n + 7) (f := ff10) (es := [.int (m : Int)]) rfl rfl rfl]
  show (xss _ bd10 [.va (.int (m : Int)), .un, .un] S).bind _ = _
  unfold bd10
  have ea : ev (gaOf P 100000 (n + 7)) (.new 0 (.cons (.tup (.cons (.int 1) .nil)) .nil)) [.va (.int (m : Int)), .un, .un] S = .ok (pT (chZ 0)) S :=
    new_poly (l := [.int 1]) (q := .tup [.int 1]) (by simp [ev, evs, R.bind, SZ]) (.inr rfl) (by intro d hd; simp at hd; subst hd; exact isNum_i 1) (by decide)
  have eb : ev (gaOf P 100000 (n + 7)) (.new 0 (.cons (.tup (.cons (.neg (.int 1)) (.cons (.int 1) .nil))) .nil)) [.va (.int (m : Int)), .un, .un] S = .ok (pT (chZ 1)) S :=
    new_poly (l := [.int (-1), .int 1]) (q := .tup [.int (-1), .int 1]) (by simp [ev, evs, R.bind, SZ, negD]) (.inr rfl) (by intro d hd; simp at hd; rcases hd with rfl | rfl <;> exact isNum_i _) (by decide)
  rw [x_cons (v' := chS m 0) (S' := S) (by
    rw [xs1, ev, e_evs ea (e_evs eb e_evs_nil)]
    rfl)]
  have e := forL_inv (S := S) (f := fun x v S => match bindPt (.nm 2) x v with
    | some w => xss (gaOf P 100000 (n + 7)) (.cons (.app 1 (.bin .sub (.bin .mul (.new 0 (.cons (.tup (.cons (.bin .sub (.neg (.var 2)) (.int 1)) (.cons (.int 1) .nil))) .nil)) (.idx (.own 1) (.var 2))) (.bin .mul (.idx (.own 1) (.bin .sub (.var 2) (.int 1))) (.var 2)))) .nil) w S
    | none => .bad) (upto ((m : Int) - 1).toNat 1) (chS m) (fun k x hx => by
      rw [upto_map, List.getElem?_map] at hx
      have hk : k < ((m : Int) - 1).toNat := by
        rcases Nat.lt_or_ge k ((m : Int) - 1).toNat with h | h
        · exact h
        · rw [List.getElem?_eq_none (by simpa using h)] at hx; cases hx
      rw [List.getElem?_range hk] at hx
      cases hx
      exact charlier_step (chOk_at h (by omega)).1 (chOk_at h (by omega)).1 (chOk_at h (by omega)).2 (by omega))
  rw [x_cons (v' := chS m (upto ((m : Int) - 1).toNat 1).length) (S' := S) (by
    rw [xs1, t_rng2 (e_int (n := 1)) (e_var (d := .int (m : Int)) rfl) (by omega) (by omega)]
    exact e)]
  rw [upto_map, List.length_map, List.length_range]
  rw [x_ret (e_own (i := .var 0) (j := (m : Int)) (d := pT (chZ m)) rfl (e_var rfl) (atI_rng (by omega)))]
  rfl
end Mi.L71

set_option linter.all false
set_option maxRecDepth 100000
set_option maxHeartbeats 1000000
namespace Mi.L71
open Mi
/-- Bell's numbers -/
def bellZ : Nat → Int
  | 0 => 1 | 1 => 1 | 2 => 2 | 3 => 5 | 4 => 15 | 5 => 52 | 6 => 203 | 7 => 877 | 8 => 4140 | _ => 0
theorem bell_ok {n k : Nat} {S : Sto} (hk : k ≤ 8) : callN P 100000 (n + 1) 14 [.int (k : Int)] S = .ok (.int (bellZ k)) S := by
  match k, hk with
  | 0, _ => rfl
  | 1, _ => rfl
  | 2, _ => rfl
  | 3, _ => rfl
  | 4, _ => rfl
  | 5, _ => rfl
  | 6, _ => rfl
  | 7, _ => rfl
  | 8, _ => rfl
end Mi.L71

set_option linter.all false
set_option maxRecDepth 100000
set_option maxHeartbeats 1000000
namespace Mi.L71
open Mi
def dotL : List Int → List Int → List Int
  | a :: l, w :: ws => a * w :: dotL l ws
  | _, _ => []
theorem zip_comp {G : Ga} {g : D → Sto → R (Option D)} {S : Sto} : ∀ (l ws : List Int), (∀ a w, w ∈ ws → g (.tup [rI a, .int w]) S = .ok (some (rI (a * w))) S) → compL g (zipD (l.map rI) (ws.map .int)) S = .ok ((dotL l ws).map rI) S
  | [], ws, _ => by cases ws <;> rfl
  | a :: l, [], _ => rfl
  | a :: l, w :: ws, h => by
    rw [List.map_cons, List.map_cons, zipD, compL, h a w (by simp)]
    show (compL g _ S).bind _ = _
    rw [zip_comp (G := G) l ws fun a w hw => h a w (by simp [hw])]
    rfl
theorem zipD_len : ∀ (a b : List D), (zipD a b).length ≤ a.length
  | [], b => by simp [zipD]
  | a :: l, [] => by simp [zipD]
  | a :: l, b :: m => by simp [zipD, zipD_len l m]
theorem weighed_ok {n : Nat} {l ws : List Int} {S : Sto} (hl : l.length < 100000) (hw : small ws = true) : callN P 100000 (n + 4) 13 [pT l, .lst (ws.map .int)] S = .ok (rI (dotL l ws).sum) S := by
  rw [call_run (n := n + 3) (f := ff13) (es := [pT l, .lst (ws.map .int)]) rfl rfl rfl]
  show (xss _ bd13 [.va (pT l), .va (.lst (ws.map .int)), .un, .un] S).bind _ = _
  have c0 : (gaOf P 100000 (n + 3)).cls 0 = some cl0 := rfl
  have z : evt (gaOf P 100000 (n + 3)) (.zip (.ex (.fld (.var 0) 0)) (.ex (.var 1))) [.va (pT l), .va (.lst (ws.map .int)), .un, .un] S = .ok (zipD (l.map rI) (ws.map .int)) S := by
    rw [evt, evq, p0 c0 (e_var rfl)]
    simp only [R.bind]
    rw [evq, e_var (d := .lst (ws.map .int)) rfl]
    rfl
  have e : ev (gaOf P 100000 (n + 3)) (.comp (.bin .mul (.var 2) (.var 3)) [2, 3] (.tp [2, 3]) (.zip (.ex (.fld (.var 0) 0)) (.ex (.var 1))) .no) [.va (pT l), .va (.lst (ws.map .int)), .un, .un] S = .ok (.lst ((dotL l ws).map rI)) S := by
    rw [ev, z]
    show (if _ then (compL _ _ S).bind _ else _) = _
    rw [if_pos (by have := zipD_len (l.map rI) (ws.map .int); simp [SZ] at this ⊢; omega)]
    refine (congrArg (fun r => R.bind r _) (zip_comp (G := gaOf P 100000 (n + 3)) l ws ?_)).trans rfl
    intro a w hw'
    have hs : w.natAbs < 18446744073709551616 := by
      have := List.all_eq_true.1 hw w hw'
      simpa using this
    have hb : bindPt (.tp [2, 3]) (.tup [rI a, .int w]) (wipe [.va (pT l), .va (.lst (ws.map .int)), .un, .un] [2, 3]) = some [.va (pT l), .va (.lst (ws.map .int)), .va (rI a), .va (.int w)] := rfl
    simp only [hb]
    rw [evc]
    have := e_bin (G := gaOf P 100000 (n + 3)) (a := .var 2) (b := .var 3) (v := [.va (pT l), .va (.lst (ws.map .int)), .va (rI a), .va (.int w)]) (S := S) (e_var rfl) (e_var rfl) (B_muli (n := n) (mulOk_l hs))
    simp [R.nox, R.bind, this]
  unfold bd13
  have s : ev (gaOf P 100000 (n + 3)) (.sum (.ex (.comp (.bin .mul (.var 2) (.var 3)) [2, 3] (.tp [2, 3]) (.zip (.ex (.fld (.var 0) 0)) (.ex (.var 1))) .no))) [.va (pT l), .va (.lst (ws.map .int)), .un, .un] S = .ok (sumD (dotL l ws)) S := by
    rw [ev, evq, e]
    exact sumD_ok (n := n) (dotL l ws) S
  have r0 : ev (gaOf P 100000 (n + 3)) (.new 1 (.cons (.int 0) .nil)) [.va (pT l), .va (.lst (ws.map .int)), .un, .un] S = .ok (rI 0) S := new_ratio1 (n := n + 1) (e_evs e_int e_evs_nil)
  have b : binop (gaOf P 100000 (n + 3)) .add (sumD (dotL l ws)) (rI 0) S = .ok (rI (dotL l ws).sum) S := by
    cases h : dotL l ws with
    | nil => exact B_radd
    | cons x m =>
      have := B_add (n := n) (a := (x :: m).sum) (b := 0) (S := S)
      rw [Int.add_zero] at this
      exact this
  rw [x_ret (e_bin s r0 b)]
  rfl
theorem size_ok {n : Nat} {l : List Int} {S : Sto} : callN P 100000 (n + 1) 15 [pT l] S = .ok (.int (l.length : Int)) S := by
  have c0 : (gaOf P 100000 n).cls 0 = some cl0 := rfl
  have k : knD (gaOf P 100000 n) (pT l) = true := rfl
  have t : tyIs (.cls 0) (pT l) = true := rfl
  rw [call_run (n := n) (f := ff15) (es := [pT l]) rfl rfl rfl]
  show (xss _ bd15 [.va (pT l)] S).bind _ = _
  have e := e_bin (p1 c0 (e_var (i := 0) (v := [.va (pT l)]) (S := S) rfl)) (e_int (n := 1)) b_add
  simp only [Int.sub_add_cancel] at e
  simp [bd15, xss, xs1, ↓e, ev, R.bind, getN, asB, k, knT, t, c0, finF]
end Mi.L71

set_option linter.all false
set_option maxRecDepth 100000
set_option maxHeartbeats 1000000
namespace Mi.L71
open Mi
def bells (m : Nat) : List Int := (List.range m).map bellZ
theorem e_callG {G : Ga} {f : Nat} {es : Exs} {v : Env} {S S1 : Sto} {l : List D} (h : evs G es v S = .ok l S1) : ev G (.call f es) v S = G.call f l S1 := by
  rw [ev, h]; rfl
theorem e_call {P : Pg} {fuel n f : Nat} {es : Exs} {v : Env} {S S1 : Sto} {l : List D} (h : evs (gaOf P fuel n) es v S = .ok l S1) : ev (gaOf P fuel n) (.call f es) v S = callN P fuel n f l S1 := e_callG h
theorem bells_small : ∀ m, m ≤ 9 → small (bells m) = true := by decide +kernel
theorem csum_e {n : Nat} {l : List Int} {S : Sto} (hl : l.length ≤ 9) : ev (gaOf P 100000 (n + 4)) (.comp (.call 14 (.cons (.var 1) .nil)) [1] (.nm 1) (.rng1 (.call 15 (.cons (.var 0) .nil))) .no) [.va (pT l), .un] S = .ok (.lst ((bells l.length).map .int)) S := by
    rw [e_compR (f := fun k => .int (bellZ k)) (n := l.length) (by
      rw [e_call (e_evs (e_var rfl) e_evs_nil), size_ok]) (by omega) (fun k hk => by
      rw [e_call (e_evs (e_var rfl) e_evs_nil), bell_ok (by omega)])]
    simp [bells]
theorem csum_ok {n : Nat} {l : List Int} {S : Sto} (hl : l.length ≤ 9) : callN P 100000 (n + 5) 8 [pT l] S = .ok (rI (dotL l (bells l.length)).sum) S := by
  rw [call_run (n := n + 4) (f := ff8) (es := [pT l]) rfl rfl rfl]
  show (xss _ bd8 [.va (pT l), .un] S).bind _ = _
  have e := csum_e (n := n) (S := S) hl
  unfold bd8
  rw [x_ret (d := rI (dotL l (bells l.length)).sum) (S' := S) (by
    rw [e_call (e_evs (e_var (d := pT l) rfl) (e_evs e e_evs_nil)), weighed_ok (by omega)]
    exact bells_small _ hl)]
  rfl
end Mi.L71

set_option linter.all false
set_option maxRecDepth 100000
set_option maxHeartbeats 1000000
namespace Mi.L71
open Mi
section
variable {G : Ga} {v : Env} {S S1 S' : Sto}
theorem e_not {e : Ex} {b : Bool} (h : ev G e v S = .ok (.bl b) S') : ev G (.not e) v S = .ok (.bl (!b)) S' := by rw [ev, h]; rfl
theorem e_or {es : Exs} {b : Bool} (h : evOr G es v S = .ok b S') : ev G (.or es) v S = .ok (.bl b) S' := by rw [ev, h]; rfl
theorem e_and {es : Exs} {b : Bool} (h : evAnd G es v S = .ok b S') : ev G (.and es) v S = .ok (.bl b) S' := by rw [ev, h]; rfl
theorem o_nil : evOr G .nil v S = .ok false S := by rw [evOr]
theorem o_f {e : Ex} {es : Exs} {r : R Bool} (h : ev G e v S = .ok (.bl false) S1) (h2 : evOr G es v S1 = r) : evOr G (.cons e es) v S = r := by rw [evOr, h]; exact h2
theorem o_t {e : Ex} {es : Exs} (h : ev G e v S = .ok (.bl true) S1) : evOr G (.cons e es) v S = .ok true S1 := by rw [evOr, h]; rfl
theorem a_nil : evAnd G .nil v S = .ok true S := by rw [evAnd]
theorem a_t {e : Ex} {es : Exs} {r : R Bool} (h : ev G e v S = .ok (.bl true) S1) (h2 : evAnd G es v S1 = r) : evAnd G (.cons e es) v S = r := by rw [evAnd, h]; exact h2
theorem a_f {e : Ex} {es : Exs} (h : ev G e v S = .ok (.bl false) S1) : evAnd G (.cons e es) v S = .ok false S1 := by rw [evAnd, h]; rfl
theorem q_of {e : Ex} {d : D} {l : List D} (h : ev G e v S = .ok d S') (hd : d = .lst l ∨ d = .tup l) : evq G (.ex e) v S = .ok l S' := by
  rw [evq, h]; rcases hd with rfl | rfl <;> rfl
theorem t_of {e : Ex} {d : D} {l : List D} (h : ev G e v S = .ok d S') (hd : d = .lst l ∨ d = .tup l) : evt G (.seq (.ex e)) v S = .ok l S' := by
  rw [evt]; exact q_of h hd
theorem x_if_t {c : Ex} {a b : Sms} {r : R Fl} (h : ev G c v S = .ok (.bl true) S1) (h2 : xss G a v S1 = r) : xs1 G (.iff c a b) v S = r := by rw [x_iff h]; exact h2
theorem x_if_f {c : Ex} {a b : Sms} {r : R Fl} (h : ev G c v S = .ok (.bl false) S1) (h2 : xss G b v S1 = r) : xs1 G (.iff c a b) v S = r := by rw [x_iff h]; exact h2
theorem x_nil : xss G .nil v S = .ok (.nx v) S := by rw [xss]
theorem x_exp {e : Ex} {d : D} (h : ev G e v S = .ok d S1) : xs1 G (.exp e) v S = .ok (.nx v) S1 := by rw [xs1, h]; rfl
end
def nD (k : Nat) : D := .int (k : Int)
theorem sum_nD {G : Ga} {S : Sto} : ∀ (ks : List Nat) (a : Nat), sumL G (ks.map nD) (nD a) S = .ok (nD (a + ks.sum)) S
  | [], a => by simp [sumL]
  | k :: ks, a => by
    rw [List.map_cons, sumL]
    show (R.ok (D.int ((a : Int) + (k : Int))) S).bind _ = _
    have : (a : Int) + (k : Int) = ((a + k : Nat) : Int) := by omega
    rw [this]
    show sumL G (ks.map nD) (nD (a + k)) S = _
    rw [sum_nD ks (a + k), List.sum_cons, Nat.add_assoc]
theorem allB_true : ∀ n, allB (List.replicate n (.bl true)) = some true
  | 0 => rfl
  | n + 1 => by rw [List.replicate_succ, allB, allB_true n]; rfl
theorem need_ok {n : Nat} {q : D} {ks : List Nat} {S : Sto} (hq : q = .lst (ks.map nD) ∨ q = .tup (ks.map nD)) (hs : ks.sum ≤ 8) (hl : ks.length < 1000) : callN P 100000 (n + 2) 7 [q] S = .ok .non S := by
  rw [call_run (n := n + 1) (f := ff7) (es := [q]) rfl rfl rfl]
  show (xss _ bd7 [.va q, .un] S).bind _ = _
  have a : ev (gaOf P 100000 (n + 1)) (.call 11 (.cons (.var 0) .nil)) [.va q, .un] S = .ok (.bl true) S := by
    rw [e_call (e_evs (e_var rfl) e_evs_nil)]
    rcases hq with rfl | rfl
    · exact is_row_l
    · exact is_row_t
  have c : ev (gaOf P 100000 (n + 1)) (.comp (.and (.cons (.call 12 (.cons (.var 1) .nil)) (.cons (.cmp .ge (.var 1) (.int 0)) .nil))) [1] (.nm 1) (.seq (.ex (.var 0))) .no) [.va q, .un] S = .ok (.lst (List.replicate ks.length (.bl true))) S := by
    have := e_compN (G := gaOf P 100000 (n + 1)) (e := .and (.cons (.call 12 (.cons (.var 1) .nil)) (.cons (.cmp .ge (.var 1) (.int 0)) .nil))) (i := 1) (v := [.va q, .un]) (f := fun _ => .bl true) (t_of (e_var (i := 0) (v := [.va q, .un]) (S := S) rfl) hq) (by simp [SZ]; omega) (fun x hx => by
      obtain ⟨k, _, rfl⟩ := List.mem_map.1 hx
      show ev _ _ [.va q, .va (nD k)] S = _
      have e1 : ev (gaOf P 100000 (n + 1)) (.call 12 (.cons (.var 1) .nil)) [.va q, .va (nD k)] S = .ok (.bl true) S := by
        rw [e_call (e_evs (e_var (d := nD k) rfl) e_evs_nil)]; exact ci
      have e2 : ev (gaOf P 100000 (n + 1)) (.cmp .ge (.var 1) (.int 0)) [.va q, .va (nD k)] S = .ok (.bl true) S := by
        rw [e_cmp (e_var (d := .int (k : Int)) rfl) e_int c_ge]; simp
      exact e_and (a_t e1 (a_t e2 a_nil)))
    rw [this, List.map_map]
    congr 2
    rw [show ((fun _ => D.bl true) ∘ nD) = (fun _ => D.bl true) from rfl, List.map_const']
  have b : ev (gaOf P 100000 (n + 1)) (.all (.ex (.comp (.and (.cons (.call 12 (.cons (.var 1) .nil)) (.cons (.cmp .ge (.var 1) (.int 0)) .nil))) [1] (.nm 1) (.seq (.ex (.var 0))) .no))) [.va q, .un] S = .ok (.bl true) S := by
    rw [ev, evl, c]
    simp only [R.bind, allB_true]
  have d : ev (gaOf P 100000 (n + 1)) (.cmp .gt (.sum (.ex (.var 0))) (.con 0)) [.va q, .un] S = .ok (.bl false) S := by
    have s : ev (gaOf P 100000 (n + 1)) (.sum (.ex (.var 0))) [.va q, .un] S = .ok (nD ks.sum) S := by
      rw [ev, q_of (e_var rfl) hq]
      have := sum_nD (G := gaOf P 100000 (n + 1)) (S := S) ks 0
      rw [Nat.zero_add] at this
      exact this
    have k : ev (gaOf P 100000 (n + 1)) (.con 0) [.va q, .un] S = .ok (.int 8) S := by rw [ev]; rfl
    rw [e_cmp s k c_gt]
    congr 2
    simp; omega
  unfold bd7
  rw [x_cons (x_if_f (e_or (o_f (e_not a) (o_f (e_not b) (o_f d o_nil)))) x_nil), x_nil]
  rfl
def mixP (ks : List Nat) : List Int := prodZ (ks.map chZ) (trim [1])
def mixZ (ks : List Nat) : Int := (dotL (mixP ks) (bells (mixP ks).length)).sum
def mixOk (ks : List Nat) : Bool := ks.all (fun k => decide (k ≤ 8)) && prodOk (ks.map chZ) (trim [1]) && decide ((mixP ks).length ≤ 9)
theorem chOk8 : ∀ m, m ≤ 8 → chOk m = true := by decide +kernel
theorem mixed_ok {n : Nat} {q : D} {ks : List Nat} {S : Sto} (hq : q = .lst (ks.map nD) ∨ q = .tup (ks.map nD)) (hs : ks.sum ≤ 8) (hl : ks.length < 1000) (ho : mixOk ks = true) : callN P 100000 (n + 9) 4 [q] S = .ok (.int (mixZ ks)) S := by
  rw [mixOk, Bool.and_eq_true, Bool.and_eq_true] at ho
  obtain ⟨⟨o1, o2⟩, o3⟩ := ho
  rw [call_run (n := n + 8) (f := ff4) (es := [q]) rfl rfl rfl]
  show (xss _ bd4 [.va q, .un] S).bind _ = _
  have c1 : (gaOf P 100000 (n + 8)).cls 1 = some cl1 := rfl
  have a : ev (gaOf P 100000 (n + 8)) (.call 7 (.cons (.var 0) .nil)) [.va q, .un] S = .ok .non S := by
    rw [e_call (e_evs (e_var rfl) e_evs_nil)]; exact need_ok (n := n + 6) hq hs hl
  have c : ev (gaOf P 100000 (n + 8)) (.comp (.call 10 (.cons (.var 1) .nil)) [1] (.nm 1) (.seq (.ex (.var 0))) .no) [.va q, .un] S = .ok (.lst ((ks.map chZ).map pT)) S := by
    have := e_compN (G := gaOf P 100000 (n + 8)) (e := .call 10 (.cons (.var 1) .nil)) (i := 1) (v := [.va q, .un]) (f := fun d => pT (chZ ((numI d).toNat))) (t_of (e_var (i := 0) (v := [.va q, .un]) (S := S) rfl) hq) (by simp [SZ]; omega) (fun x hx => by
      obtain ⟨k, hk, rfl⟩ := List.mem_map.1 hx
      have hk8 : k ≤ 8 := by simpa using List.all_eq_true.1 o1 k hk
      show ev _ _ [.va q, .va (nD k)] S = _
      rw [e_call (e_evs (e_var (d := nD k) rfl) e_evs_nil)]
      show callN P 100000 (n + 8) 10 [.int (k : Int)] S = .ok (pT (chZ ((k : Int).toNat))) S
      rw [Int.toNat_natCast]
      exact charlier_ok (by omega) (chOk8 k hk8))
    rw [this, List.map_map, List.map_map]
    congr 3
  have p : ev (gaOf P 100000 (n + 8)) (.call 9 (.cons (.comp (.call 10 (.cons (.var 1) .nil)) [1] (.nm 1) (.seq (.ex (.var 0))) .no) .nil)) [.va q, .un] S = .ok (pT (mixP ks)) S := by
    rw [e_call (e_evs c e_evs_nil)]; exact product_ok o2
  have s : ev (gaOf P 100000 (n + 8)) (.call 8 (.cons (.call 9 (.cons (.comp (.call 10 (.cons (.var 1) .nil)) [1] (.nm 1) (.seq (.ex (.var 0))) .no) .nil)) .nil)) [.va q, .un] S = .ok (rI (mixZ ks)) S := by
    rw [e_call (e_evs p e_evs_nil)]; exact csum_ok (n := n + 3) (by simpa using o3)
  unfold bd4
  rw [x_cons (x_exp a), x_ret (g3 c1 s)]
  rfl
end Mi.L71

set_option linter.all false
set_option maxRecDepth 100000
set_option maxHeartbeats 1000000
namespace Mi.L71
open Mi
/-! _law_partings -/
def tP (lot : List Nat) : D := .tup (lot.map nD)
def tL (lots : List (List Nat)) : D := .tup (lots.map tP)
def stepAt (item : Nat) (lots : List (List Nat)) (at_ : Nat) : List (List Nat) := lots.take at_ ++ [lots.getD at_ [] ++ [item]] ++ lots.drop (at_ + 1)
def stepP (item : Nat) (lots : List (List Nat)) : List (List (List Nat)) := (List.range lots.length).map (stepAt item lots) ++ [lots ++ [[item]]]
def partsN : Nat → List (List (List Nat))
  | 0 => [[]]
  | n + 1 => (partsN n).flatMap (stepP n)
section
variable {G : Ga} {v : Env} {S S1 S2 S' : Sto} {e : Ex}
theorem b_addT {a b : List D} (h : a.length + b.length ≤ SZ) : binop G .add (.tup a) (.tup b) S = .ok (.tup (a ++ b)) S := by
  show (match (if a.length + b.length ≤ SZ then some (D.tup (a ++ b)) else none) with | some d => R.ok d S | none => .bad) = _
  rw [if_pos h]
theorem b_addL {a b : List D} (h : a.length + b.length ≤ SZ) : binop G .add (.lst a) (.lst b) S = .ok (.lst (a ++ b)) S := by
  show (match (if a.length + b.length ≤ SZ then some (D.lst (a ++ b)) else none) with | some d => R.ok d S | none => .bad) = _
  rw [if_pos h]
theorem e_tup1 {d : D} (h : ev G e v S = .ok d S') : ev G (.tup (.cons e .nil)) v S = .ok (.tup [d]) S' := by
  rw [ev, e_evs h e_evs_nil]; rfl
theorem e_lst1 {d : D} (h : ev G e v S = .ok d S') : ev G (.lst (.cons e .nil)) v S = .ok (.lst [d]) S' := by
  rw [ev, e_evs h e_evs_nil]; rfl
theorem e_lst0 : ev G (.lst .nil) v S = .ok (.lst []) S := by
  rw [ev, e_evs_nil]; rfl
theorem cut_from {α : Type} {l : List α} {f : α → D} {n : Nat} (h : n ≤ l.length) : cut (l.map f) (some (n : Int)) none = (l.drop n).map f := by
  show ((l.map f).drop (if (n : Int) < 0 then ((n : Int) + ((l.map f).length : Int)).toNat else min (n : Int).toNat (l.map f).length)).take ((l.map f).length - (if (n : Int) < 0 then ((n : Int) + ((l.map f).length : Int)).toNat else min (n : Int).toNat (l.map f).length)) = _
  rw [if_neg (by omega)]
  simp only [Int.toNat_natCast, List.length_map, List.map_drop]
  rw [Nat.min_eq_left h, List.take_of_length_le]
  simp
theorem cut_to' {α : Type} {l : List α} {f : α → D} {n : Nat} (h : n ≤ l.length) : cut (l.map f) none (some (n : Int)) = (l.take n).map f := by
  show ((l.map f).drop 0).take ((if (n : Int) < 0 then ((n : Int) + ((l.map f).length : Int)).toNat else min (n : Int).toNat (l.map f).length) - 0) = _
  rw [if_neg (by omega)]
  simp only [List.drop_zero, Int.toNat_natCast, List.length_map, Nat.sub_zero, List.map_take]
  rw [Nat.min_eq_left h]
theorem e_slcTo {l : List D} {i : Ex} {j : Int} (h : ev G e v S = .ok (.tup l) S1) (hi : ev G i v S1 = .ok (.int j) S2) : ev G (.slc (.ex e) .no (.yes i)) v S = .ok (.tup (cut l none (some j))) S2 := by
  rw [ev, evk, h]; simp only [R.bind, evo, hi]
theorem e_slcFrom {l : List D} {i : Ex} {j : Int} (h : ev G e v S = .ok (.tup l) S1) (hi : ev G i v S1 = .ok (.int j) S2) : ev G (.slc (.ex e) (.yes i) .no) v S = .ok (.tup (cut l (some j) none)) S2 := by
  rw [ev, evk, h]; simp only [R.bind, evo, hi]
theorem atI_mapA {α : Type} {f : α → D} {l : List α} {n : Nat} {x : α} (h : l[n]? = some x) : atI (l.map f) (n : Int) = some (f x) := by
  have hl : n < l.length := by
    rcases Nat.lt_or_ge n l.length with h1 | h1
    · exact h1
    · rw [List.getElem?_eq_none h1] at h; cases h
  rw [atI_nat (by omega) (by simpa using hl), Int.toNat_natCast, List.getElem?_map, h]; rfl
end
/-- one part longer, at one of its lots -/
theorem part_at {G : Ga} {lots : List (List Nat)} {w0 w1 : Sl} {item k : Nat} {acc : List D} {S : Sto} (hk : k < lots.length) (hl : lots.length ≤ 100) (hi : (lots.getD k []).length ≤ 100) (ha : acc.length < SZ) :
    xss G (.cons (.app 3 (.bin .add (.bin .add (.slc (.ex (.var 4)) .no (.yes (.var 5))) (.tup (.cons (.bin .add (.idx (.ex (.var 4)) (.var 5)) (.tup (.cons (.var 2) .nil))) .nil))) (.slc (.ex (.var 4)) (.yes (.bin .add (.var 5) (.int 1))) .no))) .nil) [w0, w1, .va (nD item), .ol acc, .va (tL lots), .va (nD k)] S = .ok (.nx [w0, w1, .va (nD item), .ol (acc ++ [tL (stepAt item lots k)]), .va (tL lots), .va (nD k)]) S := by
  generalize hv : ([w0, w1, .va (nD item), .ol acc, .va (tL lots), .va (nD k)] : Env) = v
  have v4 : ev G (.var 4) v S = .ok (.tup (lots.map tP)) S := e_var (by subst hv; rfl)
  have v5 : ev G (.var 5) v S = .ok (.int (k : Int)) S := e_var (by subst hv; rfl)
  have v2 : ev G (.var 2) v S = .ok (nD item) S := e_var (by subst hv; rfl)
  have a : ev G (.slc (.ex (.var 4)) .no (.yes (.var 5))) v S = .ok (.tup ((lots.take k).map tP)) S := by
    rw [e_slcTo v4 v5, cut_to' (by omega)]
  have b5 : ev G (.bin .add (.var 5) (.int 1)) v S = .ok (.int ((k + 1 : Nat) : Int)) S := by
    rw [e_bin v5 e_int b_add]; rfl
  have b : ev G (.slc (.ex (.var 4)) (.yes (.bin .add (.var 5) (.int 1))) .no) v S = .ok (.tup ((lots.drop (k + 1)).map tP)) S := by
    rw [e_slcFrom v4 b5, cut_from (by omega)]
  have g : lots[k]? = some (lots.getD k []) := by simp [hk]
  have c : ev G (.idx (.ex (.var 4)) (.var 5)) v S = .ok (tP (lots.getD k [])) S := e_idxT v4 v5 (atI_mapA g)
  have d : ev G (.bin .add (.idx (.ex (.var 4)) (.var 5)) (.tup (.cons (.var 2) .nil))) v S = .ok (tP (lots.getD k [] ++ [item])) S := by
    rw [e_bin c (e_tup1 v2) (b_addT (by simp [SZ] at hi ⊢; omega))]
    simp [tP]
  have f := e_bin (e_bin a (e_tup1 d) (b_addT (by simp [SZ]; omega))) b (b_addT (by simp [SZ]; omega))
  have h3 : getN v 3 = some (.ol acc) := by subst hv; rfl
  rw [x_cons (x_app h3 f ha), x_nil]
  subst hv
  simp [setN, tL, stepAt]
theorem forL_upto {f : D → Env → Sto → R Fl} {S : Sto} (n : Nat) (I : Nat → Env) (h : ∀ k, k < n → f (nD k) (I k) S = .ok (.nx (I (k + 1))) S) : forL f (upto n 0) (I 0) S = .ok (.nx (I n)) S := by
  have := forL_inv (f := f) (S := S) (upto n 0) I (fun k x hx => by
    rw [upto_0, List.getElem?_map] at hx
    have hk : k < n := by
      rcases Nat.lt_or_ge k n with h | h
      · exact h
      · rw [List.getElem?_eq_none (by simpa using h)] at hx; cases hx
    rw [List.getElem?_range hk] at hx
    cases hx
    exact h k hk)
  rw [upto_0, List.length_map, List.length_range, ← upto_0] at this
  exact this
def pB1 : Sms := .cons (.app 3 (.bin .add (.bin .add (.slc (.ex (.var 4)) .no (.yes (.var 5))) (.tup (.cons (.bin .add (.idx (.ex (.var 4)) (.var 5)) (.tup (.cons (.var 2) .nil))) .nil))) (.slc (.ex (.var 4)) (.yes (.bin .add (.var 5) (.int 1))) .no))) .nil
def pB2 : Sms := .cons (.for_ (.nm 5) (.rng1 (.len (.ex (.var 4)))) pB1) (.cons (.app 3 (.bin .add (.var 4) (.tup (.cons (.tup (.cons (.var 2) .nil)) .nil)))) .nil)
theorem parts_in {G : Ga} {lots : List (List Nat)} {w0 w1 w5 : Sl} {item : Nat} {acc : List D} {S : Sto} (hl : lots.length ≤ 100) (hi : ∀ lot ∈ lots, lot.length ≤ 100) (ha : acc.length + 200 < SZ) :
    ∃ w, xss G pB2 [w0, w1, .va (nD item), .ol acc, .va (tL lots), w5] S = .ok (.nx [w0, w1, .va (nD item), .ol (acc ++ (stepP item lots).map tL), .va (tL lots), w]) S := by
  let I : Nat → Env := fun k => [w0, w1, .va (nD item), .ol (acc ++ ((List.range k).map (stepAt item lots)).map tL), .va (tL lots), match k with | 0 => w5 | k + 1 => .va (nD k)]
  have e := forL_upto (S := S) (f := fun x v S => match bindPt (.nm 5) x v with | some w => xss G pB1 w S | none => .bad) lots.length I (fun k hk => by
    show xss G pB1 [w0, w1, .va (nD item), .ol (acc ++ ((List.range k).map (stepAt item lots)).map tL), .va (tL lots), .va (nD k)] S = _
    have g : lots.getD k [] ∈ lots := by
      rw [List.getD_eq_getElem?_getD, List.getElem?_eq_getElem hk]; exact List.getElem_mem hk
    unfold pB1
    rw [part_at hk hl (hi _ g) (by simp [SZ] at ha ⊢; omega)]
    show R.ok (Fl.nx [w0, w1, .va (nD item), .ol _, .va (tL lots), .va (nD k)]) S = .ok (.nx [w0, w1, .va (nD item), .ol (acc ++ ((List.range (k + 1)).map (stepAt item lots)).map tL), .va (tL lots), .va (nD k)]) S
    rw [List.range_succ, List.map_append, List.map_append, List.append_assoc]
    rfl)
  have hl4 : ev G (.len (.ex (.var 4))) [w0, w1, .va (nD item), .ol acc, .va (tL lots), w5] S = .ok (.int (lots.length : Int)) S := by
    have := e_lenT (G := G) (e_var (i := 4) (v := [w0, w1, .va (nD item), .ol acc, .va (tL lots), w5]) (S := S) (d := tL lots) rfl)
    simpa using this
  have i0 : I 0 = [w0, w1, .va (nD item), .ol acc, .va (tL lots), w5] := by
    show ([w0, w1, .va (nD item), .ol (acc ++ []), .va (tL lots), w5] : Env) = _
    rw [List.append_nil]
  rw [i0] at e
  refine ⟨(match lots.length with | 0 => w5 | k + 1 => .va (nD k)), ?_⟩
  unfold pB2
  rw [x_cons (v' := I lots.length) (S' := S) (by
    rw [xs1, t_rng hl4 (by omega)]
    exact e)]
  have v4 : ev G (.var 4) (I lots.length) S = .ok (.tup (lots.map tP)) S := e_var rfl
  have v2 : ev G (.var 2) (I lots.length) S = .ok (nD item) S := e_var rfl
  have f := e_bin v4 (e_tup1 (e_tup1 v2)) (b_addT (by simp [SZ]; omega))
  have h3 : getN (I lots.length) 3 = some (.ol (acc ++ ((List.range lots.length).map (stepAt item lots)).map tL)) := rfl
  rw [x_cons (x_app h3 f (by simp [SZ] at ha ⊢; omega)), x_nil]
  show R.ok (Fl.nx [w0, w1, .va (nD item), .ol _, .va (tL lots), _]) S = _
  congr 5
  rw [stepP, List.map_append, ← List.append_assoc]
  congr 2
  simp [tL, tP]
theorem parts_mid {G : Ga} {w0 w1 : Sl} {item : Nat} {S : Sto} : ∀ (ps : List (List (List Nat))) (acc : List D) (w4 w5 : Sl), (∀ lots ∈ ps, lots.length ≤ 100 ∧ ∀ lot ∈ lots, lot.length ≤ 100) → acc.length + 200 * (ps.length + 1) < SZ →
    ∃ w4' w5', forL (fun x v S => match bindPt (.nm 4) x v with | some w => xss G pB2 w S | none => .bad) (ps.map tL) [w0, w1, .va (nD item), .ol acc, w4, w5] S = .ok (.nx [w0, w1, .va (nD item), .ol (acc ++ (ps.flatMap (stepP item)).map tL), w4', w5']) S
  | [], acc, w4, w5, _, _ => ⟨w4, w5, by simp [forL]⟩
  | lots :: ps, acc, w4, w5, h, ha => by
    rw [List.length_cons] at ha
    obtain ⟨w, e1⟩ := parts_in (G := G) (w0 := w0) (w1 := w1) (w5 := w5) (item := item) (S := S) (h lots (by simp)).1 (h lots (by simp)).2 (acc := acc) (by omega)
    have hlen : (stepP item lots).length = lots.length + 1 := by simp [stepP]
    obtain ⟨w4', w5', e2⟩ := parts_mid (G := G) (w0 := w0) (w1 := w1) (item := item) (S := S) ps (acc ++ (stepP item lots).map tL) (.va (tL lots)) w (fun l hl => h l (by simp [hl])) (by
      have := (h lots (by simp)).1
      rw [List.length_append, List.length_map, hlen]; omega)
    refine ⟨w4', w5', ?_⟩
    rw [List.map_cons, forL]
    show (xss G pB2 [w0, w1, .va (nD item), .ol acc, .va (tL lots), w5] S).bind _ = _
    rw [e1]
    refine Eq.trans e2 ?_
    rw [List.flatMap_cons, List.map_append, List.append_assoc]
end Mi.L71

set_option linter.all false
set_option maxRecDepth 100000
set_option maxHeartbeats 1000000
namespace Mi.L71
open Mi
/-- a loop by an invariant over places, slots and the store -/
theorem forL_ex {f : D → Env → Sto → R Fl} : ∀ (l : List D) (Inv : Nat → Env → Sto → Prop), (∀ k x v S, l[k]? = some x → Inv k v S → ∃ v' S', f x v S = .ok (.nx v') S' ∧ Inv (k + 1) v' S') → ∀ v S, Inv 0 v S → ∃ v' S', forL f l v S = .ok (.nx v') S' ∧ Inv l.length v' S'
  | [], Inv, _, v, S, h0 => ⟨v, S, rfl, h0⟩
  | x :: l, Inv, h, v, S, h0 => by
    obtain ⟨v1, S1, e1, i1⟩ := h 0 x v S rfl h0
    obtain ⟨v2, S2, e2, i2⟩ := forL_ex l (fun k => Inv (k + 1)) (fun k y v S hy hi => h (k + 1) y v S hy hi) v1 S1 i1
    exact ⟨v2, S2, by rw [forL, e1]; exact e2, i2⟩
theorem upto_get {n k : Nat} {x : D} (h : (upto n 0)[k]? = some x) : k < n ∧ x = nD k := by
  rw [upto_0, List.getElem?_map] at h
  have hk : k < n := by
    rcases Nat.lt_or_ge k n with h' | h'
    · exact h'
    · rw [List.getElem?_eq_none (by simpa using h')] at h; cases h
  rw [List.getElem?_range hk] at h
  cases h
  exact ⟨hk, rfl⟩
theorem upto_len (n : Nat) : (upto n 0).length = n := by rw [upto_0]; simp
theorem stepP_ok {item n : Nat} {lots : List (List Nat)} (h : lots.length ≤ n ∧ ∀ lot ∈ lots, lot.length ≤ n) {q : List (List Nat)} (hq : q ∈ stepP item lots) : q.length ≤ n + 1 ∧ ∀ lot ∈ q, lot.length ≤ n + 1 := by
  unfold stepP at hq
  rcases List.mem_append.1 hq with hq | hq
  · obtain ⟨k, hk, rfl⟩ := List.mem_map.1 hq
    have hk : k < lots.length := by simpa using hk
    unfold stepAt
    refine ⟨by simp; omega, fun lot hl => ?_⟩
    have g : lots.getD k [] ∈ lots := by
      rw [List.getD_eq_getElem?_getD, List.getElem?_eq_getElem hk]; exact List.getElem_mem hk
    rcases List.mem_append.1 hl with hl | hl
    · rcases List.mem_append.1 hl with hl | hl
      · have := h.2 lot (List.mem_of_mem_take hl); omega
      · have := h.2 _ g
        simp at hl; subst hl; simp at this ⊢; omega
    · have := h.2 lot (List.mem_of_mem_drop hl); omega
  · simp at hq; subst hq
    refine ⟨by simp; omega, fun lot hl => ?_⟩
    rcases List.mem_append.1 hl with hl | hl
    · have := h.2 lot hl; omega
    · simp at hl; subst hl; simp
theorem partsN_in : ∀ n, ∀ lots ∈ partsN n, lots.length ≤ n ∧ ∀ lot ∈ lots, lot.length ≤ n
  | 0, lots, h => by simp [partsN] at h; subst h; simp
  | n + 1, lots, h => by
    rw [partsN] at h
    obtain ⟨p, hp, hq⟩ := List.mem_flatMap.1 h
    exact stepP_ok (partsN_in n p hp) hq
theorem partsN_len : ∀ n, n ≤ 7 → (partsN n).length ≤ 1000 := by decide +kernel
theorem parts_ok {m n : Nat} {S : Sto} (hn : n ≤ 7) : callN P 100000 (m + 1) 3 [nD n] S = .ok (.lst ((partsN n).map tL)) S := by
  rw [call_run (n := m) (f := ff3) (es := [nD n]) rfl rfl rfl]
  show (xss _ bd3 [.va (nD n), .un, .un, .un, .un, .un] S).bind _ = _
  unfold bd3
  have e0 : ev (gaOf P 100000 m) (.lst (.cons (.tup (.nil)) .nil)) [.va (nD n), .un, .un, .un, .un, .un] S = .ok (.lst ((partsN 0).map tL)) S := by
    rw [e_lst1 (d := .tup []) (S' := S) (by rw [ev, e_evs_nil]; rfl)]; rfl
  rw [x_cons (x_asg e0)]
  obtain ⟨v', S', e, ⟨w2, w3, w4, w5, rfl⟩, rfl⟩ := forL_ex (f := fun x v S => match bindPt (.nm 2) x v with | some w => xss (gaOf P 100000 m) (.cons (.own 3 (.lst (.nil))) (.cons (.for_ (.nm 4) (.seq (.ex (.var 1))) pB2) (.cons (.frz 3) (.cons (.asg 1 (.var 3)) .nil)))) w S | none => .bad) (upto n 0)
    (fun k v S' => (∃ w2 w3 w4 w5, v = [.va (nD n), .va (.lst ((partsN k).map tL)), w2, w3, w4, w5]) ∧ S' = S) (fun k x v S' hx hi => by
      obtain ⟨hk, rfl⟩ := upto_get hx
      obtain ⟨⟨w2, w3, w4, w5, rfl⟩, rfl⟩ := hi
      show ∃ v' S'', xss _ _ [.va (nD n), .va (.lst ((partsN k).map tL)), .va (nD k), w3, w4, w5] S' = _ ∧ _
      have b := partsN_len k (by omega)
      obtain ⟨w4', w5', e⟩ := parts_mid (G := gaOf P 100000 m) (w0 := .va (nD n)) (w1 := .va (.lst ((partsN k).map tL))) (item := k) (S := S') (partsN k) [] w4 w5 (fun lots h => ⟨by have := (partsN_in k lots h).1; omega, fun lot hl => by have := (partsN_in k lots h).2 lot hl; omega⟩) (by simp [SZ]; omega)
      refine ⟨_, S', ?_, ⟨.va (nD k), .va (.lst ((partsN (k + 1)).map tL)), w4', w5', rfl⟩, rfl⟩
      rw [x_cons (v' := [.va (nD n), .va (.lst ((partsN k).map tL)), .va (nD k), .ol [], w4, w5]) (S' := S') (by
        rw [xs1, e_lst0]; rfl)]
      rw [x_cons (v' := [.va (nD n), .va (.lst ((partsN k).map tL)), .va (nD k), .ol ([] ++ ((partsN k).flatMap (stepP k)).map tL), w4', w5']) (S' := S') (by
        rw [xs1, t_seq (e_var rfl)]
        exact e)]
      rw [List.nil_append]
      rw [x_cons (v' := [.va (nD n), .va (.lst ((partsN k).map tL)), .va (nD k), .va (.lst ((partsN (k + 1)).map tL)), w4', w5']) (S' := S') (by
        rw [xs1]; rfl)]
      rw [x_cons (x_asg (e_var (i := 3) (d := .lst ((partsN (k + 1)).map tL)) rfl)), x_nil]
      rfl) _ S ⟨⟨.un, .un, .un, .un, rfl⟩, rfl⟩
  rw [x_cons (v' := [.va (nD n), .va (.lst ((partsN n).map tL)), w2, w3, w4, w5]) (S' := S') (by
    rw [xs1, t_rng (n := n) (e_var rfl) (by omega)]
    rw [upto_len] at e
    exact e)]
  rw [x_ret (e_var rfl)]
  rfl
end Mi.L71

set_option linter.all false
set_option maxRecDepth 100000
set_option maxHeartbeats 1000000
namespace Mi.L71
open Mi
/-! the pen in the store, what is drawn -/
def PenS (c : Nat) (S : Sto) : Prop := ∃ (cells : List Int) (a d k f : Int), S = [penK cells a d k f] ∧ 0 ≤ a ∧ 0 ≤ d ∧ 0 ≤ k ∧ k ≤ (c : Int) ∧ 0 ≤ f ∧ f < 2147483587
theorem PenS.le {c c' : Nat} {S : Sto} (h : PenS c S) (hc : c ≤ c') : PenS c' S := by
  obtain ⟨cells, a, d, k, f, e, h1, h2, h3, h4, h5, h6⟩ := h
  exact ⟨cells, a, d, k, f, e, h1, h2, h3, by omega, h5, h6⟩
theorem draw_call {n c m : Nat} {S : Sto} (h : PenS c S) (hc : c < 1000000) (m0 : 1 ≤ m) (m1 : m < 1000000) : ∃ r S', callN P 100000 (n + 1) 2 [.dr 0, nD m] S = .ok (nD r) S' ∧ r < m ∧ PenS (c + 1) S' := by
  obtain ⟨cells, a, d, k, f, rfl, h1, h2, h3, h4, h5, h6⟩ := h
  obtain ⟨r, a', d', f', e, r0, r1, a0, d0, f0, f1⟩ := draw_ok (G := gaOf P 100000 n) (n := 0) (S := [penK cells a d k f]) (m := (m : Int)) rfl ⟨h1, h2, h3, by omega, h5, h6⟩ (by omega) (by omega)
  refine ⟨r.toNat, [penK cells a' d' (k + 1) f'], ?_, by omega, cells, a', d', k + 1, f', rfl, a0, d0, by omega, by omega, f0, f1⟩
  rw [call_run (n := n) (f := ff2) (es := [.dr 0, nD m]) rfl rfl rfl]
  show (xss _ bdDraw [.va (.dr 0), .va (.int (m : Int)), .un, .un, .un] _).bind _ = _
  rw [e]
  show R.ok (D.int r) _ = R.ok (D.int (r.toNat : Int)) _
  rw [Int.toNat_of_nonneg r0]
  rfl
theorem pen_call {n : Nat} {ns : List Int} : ∃ S, callN P 100000 (n + 1) 1 [.lst (ns.map .int)] [] = .ok (.dr 0) S ∧ PenS 0 S := by
  obtain ⟨f, e, h0, h1⟩ := pen_ok (G := gaOf P 100000 n) (ns := ns) (S := [])
  refine ⟨[penK ns 0 0 0 f], ?_, ns, 0, 0, 0, f, rfl, by decide, by decide, by decide, by decide, h0, h1⟩
  rw [call_run (n := n) (f := ff1) (es := [.lst (ns.map .int)]) rfl rfl rfl]
  show (xss _ bdPen [.va (.lst (ns.map .int)), .un, .un] _).bind _ = _
  rw [e]
  rfl
theorem listed_call {n c : Nat} {l : List D} {S : Sto} (h : PenS c S) (hc : c < 1000000) : ∃ q S', callN P 100000 (n + 2) 5 [.dr 0, .lst l] S = .ok q S' ∧ (q = .lst l ∨ q = .tup l) ∧ PenS (c + 1) S' := by
  obtain ⟨r, S', e, hr, p⟩ := draw_call (n := n) (m := 2) h hc (by decide) (by decide)
  rw [call_run (n := n + 1) (f := ff5) (es := [.dr 0, .lst l]) rfl rfl rfl]
  have a : ev (gaOf P 100000 (n + 1)) (.cmp .eq (.call 2 (.cons (.var 0) (.cons (.int 2) .nil))) (.int 0)) [.va (.dr 0), .va (.lst l)] S = .ok (.bl (((r : Int)) == 0)) S' := by
    refine e_cmp (x := nD r) (S1 := S') ?_ e_int c_eq
    rw [e_call (e_evs (e_var rfl) (e_evs e_int e_evs_nil))]
    exact e
  show ∃ q S', (xss _ bd5 [.va (.dr 0), .va (.lst l)] S).bind _ = _ ∧ _
  unfold bd5
  cases hb : ((r : Int) == 0) with
  | true =>
    rw [hb] at a
    refine ⟨.lst l, S', ?_, .inl rfl, p⟩
    rw [x_ret (d := .lst l) (S' := S') (by
      rw [ev, a]
      simp only [R.bind, asB, if_true]
      exact e_listOf (e_var rfl))]
    rfl
  | false =>
    rw [hb] at a
    refine ⟨.tup l, S', ?_, .inr rfl, p⟩
    rw [x_ret (d := .tup l) (S' := S') (by
      rw [ev, a]
      simp only [R.bind, asB, Bool.false_eq_true, if_false]
      rw [ev, evq, e_var (d := .lst l) rfl]; rfl)]
    rfl
theorem e_lenO {G : Ga} {v : Env} {S : Sto} {i : Nat} {l : List D} (h : getN v i = some (.ol l)) : ev G (.len (.own i)) v S = .ok (.int l.length) S := by
  rw [ev, evq, h]; rfl
theorem getN_lt {α : Type} {l : List α} {n : Nat} (h : n < l.length) : getN l n = some l[n] := by
  rw [getN_nth]; exact List.getElem?_eq_getElem h
theorem perm_move {α : Type} {left found : List α} {n : Nat} (h : n < left.length) : ((found ++ [left[n]]) ++ left.eraseIdx n).Perm (found ++ left) := by
  rw [List.append_assoc]
  refine List.Perm.append_left found ?_
  rw [List.eraseIdx_eq_take_drop_succ, List.singleton_append]
  have h2 : (left[n] :: (left.take n ++ left.drop (n + 1))).Perm (left.take n ++ left[n] :: left.drop (n + 1)) := List.perm_middle.symm
  have h3 : left.take n ++ left[n] :: left.drop (n + 1) = left := by
    rw [← List.drop_eq_getElem_cons h, List.take_append_drop]
  rw [h3] at h2
  exact h2
theorem shuffled_call {n c : Nat} {ks : List Nat} {S : Sto} (h : PenS c S) (hc : c + ks.length < 100000) : ∃ (ks' : List Nat) (S' : Sto), callN P 100000 (n + 2) 6 [.dr 0, .lst (ks.map nD)] S = .ok (.lst (ks'.map nD)) S' ∧ ks'.Perm ks ∧ PenS (c + ks.length) S' := by
  rw [call_run (n := n + 1) (f := ff6) (es := [.dr 0, .lst (ks.map nD)]) rfl rfl rfl]
  show ∃ (ks' : List Nat) (S' : Sto), (xss _ bd6 [.va (.dr 0), .va (.lst (ks.map nD)), .un, .un, .un] S).bind _ = _ ∧ _
  unfold bd6
  have h1 : xs1 (gaOf P 100000 (n + 1)) (.par 3 true (.listOf (.ex (.var 1))) 4 true (.lst (.nil))) [.va (.dr 0), .va (.lst (ks.map nD)), .un, .un, .un] S = .ok (.nx [.va (.dr 0), .va (.lst (ks.map nD)), .un, .ol (ks.map nD), .ol []]) S := by
    rw [xs1, e_listOf (e_var (d := .lst (ks.map nD)) rfl)]
    simp only [R.bind]
    rw [e_lst0]
    rfl
  rw [x_cons h1]
  obtain ⟨v', S', e, ⟨w2, left, found, rfl, hl, hp⟩, p⟩ := forL_ex (f := fun x v S => match bindPt (.nm 2) x v with | some w => xss (gaOf P 100000 (n + 1)) (.cons (.appPop 4 3 (.call 2 (.cons (.var 0) (.cons (.len (.own 3)) .nil)))) .nil) w S | none => .bad) (upto ks.length 0)
    (fun k v S' => (∃ w2, ∃ left found : List Nat, v = [.va (.dr 0), .va (.lst (ks.map nD)), w2, .ol (left.map nD), .ol (found.map nD)] ∧ left.length + k = ks.length ∧ (found ++ left).Perm ks) ∧ PenS (c + k) S') (fun k x v S' hx hi => by
      obtain ⟨hk, rfl⟩ := upto_get hx
      obtain ⟨⟨w2, left, found, rfl, hl, hp⟩, p⟩ := hi
      obtain ⟨r, S'', e, hr, p'⟩ := draw_call (n := n) (m := left.length) p (by omega) (by omega) (by omega)
      show ∃ v' S'', xss _ _ [.va (.dr 0), .va (.lst (ks.map nD)), .va (nD k), .ol (left.map nD), .ol (found.map nD)] S' = _ ∧ _
      refine ⟨_, S'', ?_, ⟨.va (nD k), left.eraseIdx r, found ++ [left[r]], rfl, ?_, ?_⟩, p'⟩
      · rw [x_cons (v' := [.va (.dr 0), .va (.lst (ks.map nD)), .va (nD k), .ol ((left.eraseIdx r).map nD), .ol ((found ++ [left[r]]).map nD)]) (S' := S'') (by
          rw [xs1]
          simp only [getN]
          have hd : ev (gaOf P 100000 (n + 1)) (.call 2 (.cons (.var 0) (.cons (.len (.own 3)) .nil))) [.va (.dr 0), .va (.lst (ks.map nD)), .va (nD k), .ol (left.map nD), .ol (found.map nD)] S' = .ok (nD r) S'' := by
            rw [e_call (e_evs (e_var rfl) (e_evs (e_lenO (l := left.map nD) rfl) e_evs_nil)), List.length_map]
            exact e
          rw [hd]
          simp only [R.bind, nD]
          have i1 : ixN (left.map nD).length (r : Int) = some r := by
            unfold ixN
            rw [if_pos (by omega), if_pos (by simpa using hr)]; simp
          have i2 : getN (left.map nD) r = some (nD left[r]) := by
            rw [getN_lt (by simpa using hr)]; simp
          have fl : found.length ≤ ks.length := by
            have := hp.length_eq; simp at this; omega
          simp only [i1, i2]
          rw [if_pos ⟨by decide, by simp [SZ]; omega, by omega, by omega⟩]
          simp [setN]
          simp [List.eraseIdx_eq_take_drop_succ])]
        exact x_nil
      · rw [List.length_eraseIdx_of_lt hr]; omega
      · exact (perm_move hr).trans hp) [.va (.dr 0), .va (.lst (ks.map nD)), .un, .ol (ks.map nD), .ol []] S ⟨⟨.un, ks, [], rfl, rfl, List.Perm.refl _⟩, h⟩
  rw [upto_len] at hl p
  have hl0 : left = [] := by
    cases left with
    | nil => rfl
    | cons x l => simp at hl
  subst hl0
  refine ⟨found, S', ?_, by simpa using hp, p⟩
  have hlen : ev (gaOf P 100000 (n + 1)) (.len (.ex (.var 1))) [.va (.dr 0), .va (.lst (ks.map nD)), .un, .ol (ks.map nD), .ol []] S = .ok (.int (ks.length : Int)) S := by
    have := e_len (G := gaOf P 100000 (n + 1)) (e_var (i := 1) (v := [.va (.dr 0), .va (.lst (ks.map nD)), .un, .ol (ks.map nD), .ol []]) (S := S) rfl)
    simpa using this
  rw [x_cons (v' := [.va (.dr 0), .va (.lst (ks.map nD)), w2, .ol [], .ol (found.map nD)]) (S' := S') (by
    rw [xs1, t_rng hlen (by omega)]
    exact e)]
  rw [x_cons (v' := [.va (.dr 0), .va (.lst (ks.map nD)), w2, .ol [], .va (.lst (found.map nD))]) (S' := S') (by rw [xs1]; rfl)]
  rw [x_ret (e_var rfl)]
  rfl
end Mi.L71

set_option linter.all false
set_option maxRecDepth 100000
set_option maxHeartbeats 1000000
namespace Mi.L71
open Mi
/-! products of Charlier's polynomials, told by how often each size stands there -/
def polyL : List (Nat × Nat × List Int) := [(0, 0, [1]), (1, 1, [-1, 1]), (2, 2, [1, -2, 1]), (10, 2, [1, -3, 1]), (3, 3, [-1, 3, -3, 1]), (11, 3, [-1, 4, -4, 1]), (100, 3, [-1, 8, -6, 1]), (4, 4, [1, -4, 6, -4, 1]), (12, 4, [1, -5, 8, -5, 1]), (20, 4, [1, -6, 11, -6, 1]), (101, 4, [1, -9, 14, -7, 1]), (1000, 4, [1, -24, 29, -10, 1]), (5, 5, [-1, 5, -10, 10, -5, 1]), (13, 5, [-1, 6, -13, 13, -6, 1]), (21, 5, [-1, 7, -17, 17, -7, 1]), (102, 5, [-1, 10, -23, 21, -8, 1]), (110, 5, [-1, 11, -31, 27, -9, 1]), (1001, 5, [-1, 25, -53, 39, -11, 1]), (6, 6, [1, -6, 15, -20, 15, -6, 1]), (14, 6, [1, -7, 19, -26, 19, -7, 1]), (22, 6, [1, -8, 24, -34, 24, -8, 1]), (30, 6, [1, -9, 30, -45, 30, -9, 1]), (103, 6, [1, -11, 33, -44, 29, -9, 1]), (111, 6, [1, -12, 42, -58, 36, -10, 1]), (200, 6, [1, -16, 76, -98, 52, -12, 1]), (1002, 6, [1, -26, 78, -92, 50, -12, 1]), (1010, 6, [1, -27, 102, -121, 60, -13, 1]), (7, 7, [-1, 7, -21, 35, -35, 21, -7, 1]), (15, 7, [-1, 8, -26, 45, -45, 26, -8, 1]), (23, 7, [-1, 9, -32, 58, -58, 32, -9, 1]), (31, 7, [-1, 10, -39, 75, -75, 39, -10, 1]), (104, 7, [-1, 12, -44, 77, -73, 38, -10, 1]), (112, 7, [-1, 13, -54, 100, -94, 46, -11, 1]), (120, 7, [-1, 14, -65, 131, -121, 55, -12, 1]), (201, 7, [-1, 17, -92, 174, -150, 64, -13, 1]), (1003, 7, [-1, 27, -104, 170, -142, 62, -13, 1]), (1011, 7, [-1, 28, -129, 223, -181, 73, -14, 1]), (1100, 7, [-1, 32, -227, 387, -279, 97, -16, 1])]
def codeK : Nat → Nat
  | 1 => 1 | 2 => 10 | 3 => 100 | 4 => 1000 | _ => 0
def lookP (c : Nat) : List (Nat × Nat × List Int) → List Int
  | [] => []
  | (a, _, p) :: l => bif Nat.beq a c then p else lookP c l
def polyT (c : Nat) : List Int := lookP c polyL
def isKey (c w : Nat) : Bool := polyL.any fun t => Nat.beq t.1 c && Nat.beq t.2.1 w
def stepOk (c w k : Nat) : Bool := decide (7 < w + k) || (decide (trim (mulZ (polyT c) (chZ k)) = polyT (c + codeK k)) && isKey (c + codeK k) (w + k) && decide ((polyT c).length < 40000) && decide ((chZ k).length < 40000) && small (chZ k) && decide ((polyT (c + codeK k)).length ≤ 9))
theorem steps_ok : (polyL.all fun t => (List.range 5).all fun k => stepOk t.1 t.2.1 k) = true := by decide +kernel
theorem step_at {c w k : Nat} (h : isKey c w = true) (hk : k ≤ 4) : stepOk c w k = true := by
  obtain ⟨t, ht, e⟩ := List.any_eq_true.1 h
  rw [Bool.and_eq_true] at e
  have e1 := Nat.eq_of_beq_eq_true e.1
  have e2 := Nat.eq_of_beq_eq_true e.2
  have := List.all_eq_true.1 (List.all_eq_true.1 steps_ok t ht) k (by simp; omega)
  rw [e1, e2] at this
  exact this
theorem prod_tbl : ∀ (ks : List Nat) (c w : Nat), isKey c w = true → w + ks.sum ≤ 7 → (∀ k ∈ ks, k ≤ 4) →
    prodZ (ks.map chZ) (polyT c) = polyT (c + (ks.map codeK).sum) ∧ prodOk (ks.map chZ) (polyT c) = true ∧ isKey (c + (ks.map codeK).sum) (w + ks.sum) = true
  | [], c, w, h, _, _ => ⟨by simp [prodZ], rfl, by simpa using h⟩
  | k :: ks, c, w, h, hs, hk => by
    have s := step_at h (hk k (by simp))
    rw [List.sum_cons] at hs
    unfold stepOk at s
    rw [Bool.or_eq_true] at s
    rcases s with s | s
    · have := of_decide_eq_true s; omega
    · simp only [Bool.and_eq_true, decide_eq_true_eq] at s
      obtain ⟨⟨⟨⟨⟨s1, s2⟩, s3⟩, s4⟩, s5⟩, s6⟩ := s
      obtain ⟨i1, i2, i3⟩ := prod_tbl ks (c + codeK k) (w + k) s2 (by omega) fun x hx => hk x (by simp [hx])
      refine ⟨?_, ?_, ?_⟩
      · rw [List.map_cons, prodZ, s1, i1, List.map_cons, List.sum_cons, Nat.add_assoc]
      · rw [List.map_cons, prodOk, s1, i2]
        simp [s3, s4, s5]
      · rw [List.map_cons, List.sum_cons, List.sum_cons, ← Nat.add_assoc, ← Nat.add_assoc]
        exact i3
def valT (c : Nat) : Int := (dotL (polyT c) (bells (polyT c).length)).sum
def codes (ks : List Nat) : Nat := (ks.map codeK).sum
theorem keyLen : (polyL.all fun t => decide ((polyT t.1).length ≤ 9)) = true := by decide +kernel
theorem mix_tbl {ks : List Nat} (hs : ks.sum ≤ 7) (hk : ∀ k ∈ ks, k ≤ 4) : mixZ ks = valT (codes ks) ∧ mixOk ks = true := by
  obtain ⟨i1, i2, i3⟩ := prod_tbl ks 0 0 (by decide +kernel) (by omega) hk
  have e0 : polyT 0 = trim [1] := by decide +kernel
  rw [Nat.zero_add] at i1 i3
  rw [e0] at i1 i2
  have i1' : mixP ks = polyT (codes ks) := i1
  refine ⟨?_, ?_⟩
  · unfold mixZ valT; rw [i1']
  · unfold mixOk
    rw [i2, i1']
    obtain ⟨t, ht, e⟩ := List.any_eq_true.1 i3
    rw [Bool.and_eq_true] at e
    have e1 := Nat.eq_of_beq_eq_true e.1
    have := of_decide_eq_true (List.all_eq_true.1 keyLen t ht)
    rw [e1] at this
    have h1 : (ks.all fun k => decide (k ≤ 8)) = true := List.all_eq_true.2 fun k h => by have := hk k h; simp; omega
    rw [h1]
    simp only [Bool.true_and, Bool.and_true]
    exact decide_eq_true this
theorem codes_perm {a b : List Nat} (h : a.Perm b) : codes a = codes b := (h.map codeK).sum_nat
theorem codes_zero (a : List Nat) : codes (a ++ [0]) = codes a := by simp [codes, codeK]
end Mi.L71

set_option linter.all false
set_option maxRecDepth 100000
set_option maxHeartbeats 1000000
namespace Mi.L71
open Mi
/-! counting partings -/
def ownF : Nat → List Nat → List Nat
  | _, [] => []
  | i, s :: ss => List.replicate s i ++ ownF (i + 1) ss
def ownN (ks : List Nat) : List Nat := ownF 0 ks
def markZ (own : List Nat) (lot : List Nat) : List Int := lot.map fun i => ((own.getD i 0 : Nat) : Int)
def badM (m : List Int) : Bool := decide (m.length < 2) || decide ((dedup m).length < m.length)
def goodP (own : List Nat) (lots : List (List Nat)) : Bool := !(lots.any fun lot => badM (markZ own lot))
def countP (own : List Nat) : Nat := ((partsN own.length).filter (goodP own)).length
/-- quick forms -/
def nodupN : List Nat → Bool
  | [] => true
  | x :: l => !(l.any (Nat.beq x)) && nodupN l
theorem dd_len : ∀ (l : List Nat) (acc : List Int), (List.foldl dd1 acc (l.map fun (k : Nat) => (k : Int))).length ≤ acc.length + l.length
  | [], acc => by simp
  | x :: l, acc => by
    rw [List.map_cons, List.foldl_cons]
    have := dd_len l (dd1 acc (x : Int))
    have h2 : (dd1 acc (x : Int)).length ≤ acc.length + 1 := by unfold dd1; split <;> simp
    rw [List.length_cons]; omega
theorem dd_full : ∀ (l : List Nat) (acc : List Int), (List.foldl dd1 acc (l.map fun (k : Nat) => (k : Int))).length = acc.length + l.length ↔ (nodupN l = true ∧ ∀ x ∈ l, (x : Int) ∉ acc)
  | [], acc => by simp [nodupN]
  | x :: l, acc => by
    rw [List.map_cons, List.foldl_cons, List.length_cons, nodupN]
    by_cases h : (x : Int) ∈ acc
    · have e : dd1 acc (x : Int) = acc := by
        unfold dd1; rw [if_pos]; exact List.any_eq_true.2 ⟨_, h, by simp⟩
      rw [e]
      have := dd_len l acc
      constructor
      · intro q; omega
      · intro q; exact absurd h (q.2 x (by simp))
    · have e : dd1 acc (x : Int) = acc ++ [(x : Int)] := by
        unfold dd1; rw [if_neg]
        intro q
        obtain ⟨y, hy, e⟩ := List.any_eq_true.1 q
        have := beq_iff_eq.1 e
        subst this; exact h hy
      rw [e]
      have i := dd_full l (acc ++ [(x : Int)])
      rw [List.length_append, List.length_singleton] at i
      rw [show acc.length + (l.length + 1) = acc.length + 1 + l.length by omega, i]
      have hx : ((l.any (Nat.beq x)) = false) ↔ ∀ y ∈ l, y ≠ x := by
        rw [List.any_eq_false]
        constructor
        · intro q y hy e; subst e; exact q y hy (Nat.beq_refl y)
        · intro q y hy e; exact q y hy (Nat.eq_of_beq_eq_true e).symm
      rw [Bool.and_eq_true, Bool.not_eq_true', hx]
      constructor
      · rintro ⟨q1, q2⟩
        refine ⟨⟨fun y hy e => ?_, q1⟩, fun y hy => ?_⟩
        · subst e; exact q2 y hy (by simp)
        · rcases List.mem_cons.1 hy with rfl | hy
          · exact h
          · exact fun z => q2 y hy (by simp [z])
      · rintro ⟨⟨q1, q2⟩, q3⟩
        refine ⟨q2, fun y hy z => ?_⟩
        rcases List.mem_append.1 z with z | z
        · exact q3 y (by simp [hy]) z
        · have : (y : Int) = (x : Int) := by simpa using z
          exact q1 y hy (by omega)
def atN : List Nat → Nat → Nat
  | [], _ => 0
  | a :: _, 0 => a
  | _ :: l, n + 1 => atN l n
theorem atN_eq : ∀ (l : List Nat) (n : Nat), l.getD n 0 = atN l n
  | [], _ => by simp [atN]
  | a :: _, 0 => by simp [atN]
  | a :: l, n + 1 => by rw [atN, ← atN_eq l n]; simp
theorem badM_eq (own lot : List Nat) : badM (markZ own lot) = !(Nat.ble 2 lot.length && nodupN (lot.map (atN own))) := by
  have e : markZ own lot = (lot.map (atN own)).map fun (k : Nat) => (k : Int) := by
    unfold markZ; rw [List.map_map]; apply List.map_congr_left; intro i _; show ((own.getD i 0 : Nat) : Int) = ((atN own i : Nat) : Int); rw [atN_eq]
  have f := dd_full (lot.map (atN own)) []
  have g := dd_len (lot.map (atN own)) []
  unfold badM
  rw [e]
  unfold dedup
  simp only [List.length_map, List.length_nil, Nat.zero_add] at f g ⊢
  cases hn : nodupN (lot.map (atN own)) with
  | true =>
    have := f.2 ⟨hn, by simp⟩
    rw [this]
    have : decide (lot.length < lot.length) = false := by simp
    rw [this, Bool.or_false, Bool.and_true]
    have hb : Nat.ble 2 lot.length = decide (2 ≤ lot.length) := by rw [Bool.eq_iff_iff]; simp
    rw [hb]
    by_cases h : lot.length < 2
    · have h2 : ¬ 2 ≤ lot.length := by omega
      simp [h, h2]
    · have h2 : 2 ≤ lot.length := by omega
      simp [h, h2]
  | false =>
    have : ¬ (List.foldl dd1 [] ((lot.map (atN own)).map fun (k : Nat) => (k : Int))).length = lot.length := fun q => by
      have := (f.1 q).1; rw [hn] at this; cases this
    have h : decide ((List.foldl dd1 [] ((lot.map (atN own)).map fun (k : Nat) => (k : Int))).length < lot.length) = true := decide_eq_true (by omega)
    rw [h]; simp
def twoP (lots : List (List Nat)) : Bool := lots.all fun lot => Nat.ble 2 lot.length
def parts2 (n : Nat) : List (List (List Nat)) := (partsN n).filter twoP
def goodF (own : List Nat) (lots : List (List Nat)) : Bool := lots.all fun lot => nodupN (lot.map (atN own))
theorem good_eq (own : List Nat) : ∀ lots, goodP own lots = (goodF own lots && twoP lots)
  | [] => rfl
  | lot :: lots => by
    have := good_eq own lots
    unfold goodP goodF twoP at *
    rw [List.any_cons, List.all_cons, List.all_cons, badM_eq, Bool.not_or, this, Bool.not_not]
    cases Nat.ble 2 lot.length <;> cases nodupN (lot.map (atN own)) <;> simp
theorem count_eq (own : List Nat) : countP own = ((parts2 own.length).filter (goodF own)).length := by
  unfold countP parts2
  rw [List.filter_filter]
  congr 2
  funext lots
  exact good_eq own lots
def lenF : List (List (List Nat)) → (List (List Nat) → Bool) → Nat → Nat
  | [], _, n => n
  | x :: l, p, n => lenF l p (bif p x then Nat.succ n else n)
theorem lenF_eq (p : List (List Nat) → Bool) : ∀ l n, lenF l p n = n + (l.filter p).length
  | [], n => rfl
  | x :: l, n => by
    rw [lenF, lenF_eq p l]
    cases h : p x <;> simp [h] <;> omega
def rowsN : Nat → Nat → List (List Nat)
  | 0, _ => [[]]
  | n + 1, left => (List.range (min left 4 + 1)).flatMap fun s => (rowsN n (left - s)).map (s :: ·)
def chkR (r : List Nat) : Bool := decide (((lenF (parts2 (ownN r).length) (goodF (ownN r)) 0 : Nat) : Int) = valT (codes r))
theorem rows0 : ((rowsN 0 7).all chkR) = true := by decide +kernel
theorem rows1 : ((rowsN 1 7).all chkR) = true := by decide +kernel
theorem rows2 : ((rowsN 2 7).all chkR) = true := by decide +kernel
theorem rows3 : ((rowsN 3 7).all chkR) = true := by decide +kernel
theorem rows4 : ((rowsN 4 7).all chkR) = true := by decide +kernel
theorem rows5 : ((rowsN 5 7).all chkR) = true := by decide +kernel
end Mi.L71

set_option linter.all false
set_option maxRecDepth 100000
set_option maxHeartbeats 1000000
namespace Mi.L71
open Mi
theorem mem_rows : ∀ (ks : List Nat) (left : Nat), (∀ k ∈ ks, k ≤ 4) → ks.sum ≤ left → ks ∈ rowsN ks.length left
  | [], left, _, _ => by simp [rowsN]
  | k :: ks, left, h, hs => by
    rw [List.sum_cons] at hs
    have hk := h k (by simp)
    rw [List.length_cons, rowsN]
    refine List.mem_flatMap.2 ⟨k, by simp; omega, List.mem_map.2 ⟨ks, mem_rows ks (left - k) (fun x hx => h x (by simp [hx])) (by omega), rfl⟩⟩
theorem row_ok {ks : List Nat} (hl : ks.length ≤ 5) (h : ∀ k ∈ ks, k ≤ 4) (hs : ks.sum ≤ 7) : ((countP (ownN ks) : Nat) : Int) = valT (codes ks) := by
  have m := mem_rows ks 7 h hs
  have c : chkR ks = true := by
    match hn : ks.length, hl with
    | 0, _ => rw [hn] at m; exact List.all_eq_true.1 rows0 ks m
    | 1, _ => rw [hn] at m; exact List.all_eq_true.1 rows1 ks m
    | 2, _ => rw [hn] at m; exact List.all_eq_true.1 rows2 ks m
    | 3, _ => rw [hn] at m; exact List.all_eq_true.1 rows3 ks m
    | 4, _ => rw [hn] at m; exact List.all_eq_true.1 rows4 ks m
    | 5, _ => rw [hn] at m; exact List.all_eq_true.1 rows5 ks m
  have := of_decide_eq_true c
  rw [lenF_eq, Nat.zero_add] at this
  rw [count_eq, this]
theorem own_len : ∀ (ks : List Nat) (i : Nat), (ownF i ks).length = ks.sum
  | [], i => rfl
  | k :: ks, i => by rw [ownF, List.length_append, List.length_replicate, own_len ks, List.sum_cons]
theorem own_snoc : ∀ (ks : List Nat) (i s : Nat), ownF i (ks ++ [s]) = ownF i ks ++ List.replicate s (i + ks.length)
  | [], i, s => by simp [ownF]
  | k :: ks, i, s => by
    rw [List.cons_append, ownF, own_snoc ks, ownF, List.append_assoc, List.length_cons]
    congr 3; omega
theorem stepP_lt {item : Nat} {lots : List (List Nat)} (h : ∀ lot ∈ lots, ∀ x ∈ lot, x < item) {q : List (List Nat)} (hq : q ∈ stepP item lots) : ∀ lot ∈ q, ∀ x ∈ lot, x < item + 1 := by
  intro lot hl x hx
  unfold stepP at hq
  rcases List.mem_append.1 hq with hq | hq
  · obtain ⟨k, hk, rfl⟩ := List.mem_map.1 hq
    have hk : k < lots.length := by simpa using hk
    have g : lots.getD k [] ∈ lots := by
      rw [List.getD_eq_getElem?_getD, List.getElem?_eq_getElem hk]; exact List.getElem_mem hk
    unfold stepAt at hl
    rcases List.mem_append.1 hl with hl | hl
    · rcases List.mem_append.1 hl with hl | hl
      · have := h lot (List.mem_of_mem_take hl) x hx; omega
      · rw [List.mem_singleton] at hl; subst hl
        rcases List.mem_append.1 hx with hx | hx
        · have := h _ g x hx; omega
        · simp at hx; omega
    · have := h lot (List.mem_of_mem_drop hl) x hx; omega
  · rw [List.mem_singleton] at hq; subst hq
    rcases List.mem_append.1 hl with hl | hl
    · have := h lot hl x hx; omega
    · simp at hl; subst hl; simp at hx; omega
theorem partsN_lt : ∀ n, ∀ lots ∈ partsN n, ∀ lot ∈ lots, ∀ x ∈ lot, x < n
  | 0, lots, h => by simp [partsN] at h; subst h; simp
  | n + 1, lots, h => by
    rw [partsN] at h
    obtain ⟨p, hp, hq⟩ := List.mem_flatMap.1 h
    exact stepP_lt (partsN_lt n p hp) hq
section
variable {G : Ga} {v : Env} {S S1 S2 S' : Sto} {e : Ex}
theorem compL_flt {g : D → Sto → R (Option D)} {f : D → D} {p : D → Bool} {S : Sto} : ∀ (m : List D), (∀ x ∈ m, g x S = .ok (if p x = true then some (f x) else none) S) → compL g m S = .ok ((m.filter p).map f) S
  | [], _ => rfl
  | x :: m, h => by
    rw [compL, h x (by simp)]
    show (compL g m S).bind _ = _
    rw [compL_flt m fun y hy => h y (by simp [hy])]
    cases hx : p x <;> simp [R.bind, hx]
/-- a comprehension with a test -/
theorem e_compT {i : Nat} {it : Wk} {c : Ex} {l : List D} {p : D → Bool} {f : D → D} (hi : evt G it v S = .ok l S) (hl : l.length < SZ) (hc : ∀ x ∈ l, ev G c (setN (wipe v [i]) i (.va x)) S = .ok (.bl (p x)) S) (hf : ∀ x ∈ l, p x = true → ev G e (setN (wipe v [i]) i (.va x)) S = .ok (f x) S) : ev G (.comp e [i] (.nm i) it (.yes c)) v S = .ok (.lst ((l.filter p).map f)) S := by
  rw [ev, hi]
  show (if l.length < SZ then (compL _ l S).bind _ else _) = _
  rw [if_pos hl]
  refine (congrArg (fun r => R.bind r _) (compL_flt (f := f) (p := p) l ?_)).trans rfl
  intro x hx
  show ((evc G (.yes c) _ S).nox.bind _) = _
  rw [evc]
  have e1 := hc x hx
  cases hp : p x with
  | true =>
    have e2 := hf x hx hp
    rw [hp] at e1
    simp [e1, e2, asB, R.nox, R.bind]
  | false =>
    rw [hp] at e1
    simp [e1, asB, R.nox, R.bind]
theorem e_lenSet {ns : List Int} {l : List D} (h : ev G e v S = .ok (.lst l) S') (ht : toInts l = some ns) (hl : ns.length ≤ 4000) : ev G (.lenSet (.ex e)) v S = .ok (.int (dedup ns).length) S' := by
  rw [ev, evl, h]; simp only [R.bind, ht, hl, if_true]
theorem toInts_map : ∀ ns : List Int, toInts (ns.map .int) = some ns
  | [] => rfl
  | n :: ns => by rw [List.map_cons, toInts, toInts_map ns]; rfl
theorem c_ne {i j : Int} : cmpP .ne (.int i) (.int j) = some (!(i == j)) := rfl
theorem rep1 {α : Type} (x : α) : ∀ n, rep [x] n = List.replicate n x
  | 0 => rfl
  | n + 1 => by rw [rep, rep1 x n]; rfl
theorem b_repI {l : List D} {b : Int} (h : b < 9223372036854775808 ∧ -9223372036854775808 ≤ b ∧ l.length * b.toNat ≤ SZ) : binop G .mul (.lst l) (.int b) S = .ok (.lst (rep l b.toNat)) S := by
  show (match (if b < 9223372036854775808 ∧ -9223372036854775808 ≤ b ∧ l.length * b.toNat ≤ SZ then some (D.lst (rep l b.toNat)) else none) with | some d => R.ok d S | none => .bad) = _
  rw [if_pos h]
theorem b_rep {x : D} {n : Nat} (h : n < 1000) : binop G .mul (.lst [x]) (nD n) S = .ok (.lst (List.replicate n x)) S := by
  have := b_repI (G := G) (S := S) (l := [x]) (b := (n : Int)) ⟨by omega, by omega, by simp [SZ]; omega⟩
  rw [Int.toNat_natCast, rep1] at this
  exact this
end
/-- one parting looked at: [[own[item] for item in lot] for lot in lots] -/
theorem marks_ok {G : Ga} {own : List Nat} {lots : List (List Nat)} {v : Env} {S : Sto} (h3 : getN v 3 = some (.va (.lst (own.map nD)))) (h5 : getN v 5 = some (.va (tL lots))) (hv : v.length = 14) (hx : ∀ lot ∈ lots, ∀ x ∈ lot, x < own.length) (hl : lots.length ≤ 100) (hi : ∀ lot ∈ lots, lot.length ≤ 100) :
    ev G (.comp (.comp (.idx (.ex (.var 3)) (.var 12)) [12] (.nm 12) (.seq (.ex (.var 10))) .no) [10] (.nm 10) (.seq (.ex (.var 5))) .no) v S = .ok (.lst (lots.map fun lot => .lst ((markZ own lot).map .int))) S := by
  obtain ⟨v0, v1, v2, v3, v4, v5, v6, v7, v8, v9, v10, v11, v12, v13, rfl⟩ : ∃ v0 v1 v2 v3 v4 v5 v6 v7 v8 v9 v10 v11 v12 v13, v = [v0, v1, v2, v3, v4, v5, v6, v7, v8, v9, v10, v11, v12, v13] := by
    match v, hv with
    | [v0, v1, v2, v3, v4, v5, v6, v7, v8, v9, v10, v11, v12, v13], _ => exact ⟨v0, v1, v2, v3, v4, v5, v6, v7, v8, v9, v10, v11, v12, v13, rfl⟩
  cases Option.some.inj h3
  cases Option.some.inj h5
  have key : ∀ lot, lot ∈ lots → ev G (.comp (.idx (.ex (.var 3)) (.var 12)) [12] (.nm 12) (.seq (.ex (.var 10))) .no) [v0, v1, v2, .va (.lst (own.map nD)), v4, .va (tL lots), v6, v7, v8, v9, .va (tP lot), v11, v12, v13] S = .ok (.lst ((markZ own lot).map .int)) S := by
    intro lot hlot
    have := e_compN (G := G) (e := .idx (.ex (.var 3)) (.var 12)) (i := 12) (v := [v0, v1, v2, .va (.lst (own.map nD)), v4, .va (tL lots), v6, v7, v8, v9, .va (tP lot), v11, v12, v13]) (f := fun d => nD (own.getD (numI d).toNat 0)) (t_seqT (e_var (i := 10) (v := [v0, v1, v2, .va (.lst (own.map nD)), v4, .va (tL lots), v6, v7, v8, v9, .va (tP lot), v11, v12, v13]) (S := S) (d := .tup (lot.map nD)) rfl)) (by have := hi lot hlot; simp [SZ]; omega) (fun x hxx => by
      obtain ⟨k, hk, rfl⟩ := List.mem_map.1 hxx
      have hk2 := hx lot hlot k hk
      show ev _ _ [v0, v1, v2, .va (.lst (own.map nD)), v4, .va (tL lots), v6, v7, v8, v9, .va (tP lot), v11, .va (nD k), v13] S = _
      have g : own[k]? = some (own.getD k 0) := by simp [hk2]
      have e := e_idx (G := G) (e := .var 3) (i := .var 12) (v := [v0, v1, v2, .va (.lst (own.map nD)), v4, .va (tL lots), v6, v7, v8, v9, .va (tP lot), v11, .va (nD k), v13]) (S := S) (e_var rfl) (e_var (d := .int (k : Int)) rfl) (atI_mapA (f := nD) g)
      rw [e]
      show _ = R.ok (nD (own.getD ((k : Int).toNat) 0)) S
      rw [Int.toNat_natCast])
    rw [this, List.map_map]
    unfold markZ
    rw [List.map_map]
    congr 2
  have := e_compN (G := G) (e := .comp (.idx (.ex (.var 3)) (.var 12)) [12] (.nm 12) (.seq (.ex (.var 10))) .no) (i := 10) (v := [v0, v1, v2, .va (.lst (own.map nD)), v4, .va (tL lots), v6, v7, v8, v9, v10, v11, v12, v13]) (f := fun d => match d with | .tup l => .lst ((markZ own (l.map fun d => (numI d).toNat)).map .int) | _ => .non) (t_seqT (e_var (i := 5) (v := [v0, v1, v2, .va (.lst (own.map nD)), v4, .va (tL lots), v6, v7, v8, v9, v10, v11, v12, v13]) (S := S) (d := .tup (lots.map tP)) rfl)) (by simp [SZ]; omega) (fun x hxx => by
    obtain ⟨lot, hlot, rfl⟩ := List.mem_map.1 hxx
    show ev _ _ [v0, v1, v2, .va (.lst (own.map nD)), v4, .va (tL lots), v6, v7, v8, v9, .va (tP lot), v11, v12, v13] S = _
    rw [key lot hlot]
    have e : (lot.map nD).map (fun d => (numI d).toNat) = lot := by
      rw [List.map_map]
      have : ((fun d => (numI d).toNat) ∘ nD) = id := by funext k; show ((k : Int)).toNat = k; simp
      rw [this, List.map_id]
    show _ = R.ok (D.lst ((markZ own ((lot.map nD).map fun d => (numI d).toNat)).map .int)) S
    rw [e])
  rw [this, List.map_map]
  congr 2
  apply List.map_congr_left
  intro lot _
  have e : (lot.map nD).map (fun d => (numI d).toNat) = lot := by
    rw [List.map_map]
    have : ((fun d => (numI d).toNat) ∘ nD) = id := by funext k; show ((k : Int)).toNat = k; simp
    rw [this, List.map_id]
  show D.lst ((markZ own ((lot.map nD).map fun d => (numI d).toNat)).map .int) = _
  rw [e]
end Mi.L71

set_option linter.all false
set_option maxRecDepth 100000
set_option maxHeartbeats 1000000
namespace Mi.L71
open Mi
def lB : Sms := .cons (.own 11 (.comp (.comp (.idx (.ex (.var 3)) (.var 12)) [12] (.nm 12) (.seq (.ex (.var 10))) .no) [10] (.nm 10) (.seq (.ex (.var 5))) .no)) (.cons (.frz 11) (.cons (.iff (.cmp .eq (.comp (.int 1) [13] (.nm 13) (.seq (.ex (.var 11))) (.yes (.or (.cons (.cmp .lt (.len (.ex (.var 13))) (.int 2)) (.cons (.cmp .lt (.lenSet (.ex (.var 13))) (.len (.ex (.var 13)))) .nil))))) (.lst (.nil))) (.cons (.asg 4 (.bin .add (.var 4) (.int 1))) .nil) (.nil)) .nil))
theorem eq_nil {l : List D} (h : (l.all (shN 59)) = true) : cmpP .eq (.lst l) (.lst []) = some l.isEmpty := by
  show eqD (.lst l) (.lst []) = _
  have h2 : shN 60 (.lst l) = true := h
  have h3 : shN 60 (.lst []) = true := rfl
  unfold eqD
  rw [if_pos (by rw [h2, h3]; rfl)]
  cases l <;> rfl
theorem cond_ok {G : Ga} {own : List Nat} {lots : List (List Nat)} {v : Env} {S : Sto} (hv : v.length = 14) (h11 : getN v 11 = some (.va (.lst (lots.map fun lot => .lst ((markZ own lot).map .int))))) (hl : lots.length ≤ 100) (hi : ∀ lot ∈ lots, lot.length ≤ 100) :
    ev G (.cmp .eq (.comp (.int 1) [13] (.nm 13) (.seq (.ex (.var 11))) (.yes (.or (.cons (.cmp .lt (.len (.ex (.var 13))) (.int 2)) (.cons (.cmp .lt (.lenSet (.ex (.var 13))) (.len (.ex (.var 13)))) .nil))))) (.lst (.nil))) v S = .ok (.bl (goodP own lots)) S := by
  obtain ⟨v0, v1, v2, v3, v4, v5, v6, v7, v8, v9, v10, v11, v12, v13, rfl⟩ : ∃ v0 v1 v2 v3 v4 v5 v6 v7 v8 v9 v10 v11 v12 v13, v = [v0, v1, v2, v3, v4, v5, v6, v7, v8, v9, v10, v11, v12, v13] := by
    match v, hv with
    | [v0, v1, v2, v3, v4, v5, v6, v7, v8, v9, v10, v11, v12, v13], _ => exact ⟨v0, v1, v2, v3, v4, v5, v6, v7, v8, v9, v10, v11, v12, v13, rfl⟩
  let intsD : D → List Int := fun d => match d with | .lst l => (toInts l).getD [] | _ => []
  have e := e_compT (G := G) (e := .int 1) (i := 13) (it := .seq (.ex (.var 11))) (c := .or (.cons (.cmp .lt (.len (.ex (.var 13))) (.int 2)) (.cons (.cmp .lt (.lenSet (.ex (.var 13))) (.len (.ex (.var 13)))) .nil))) (v := [v0, v1, v2, v3, v4, v5, v6, v7, v8, v9, v10, v11, v12, v13]) (S := S) (l := lots.map fun lot => .lst ((markZ own lot).map .int)) (p := fun d => badM (intsD d)) (f := fun _ => .int 1)
    (t_seq (e_var h11)) (by simp [SZ]; omega) (fun x hx => by
      obtain ⟨lot, hlot, rfl⟩ := List.mem_map.1 hx
      show ev _ _ [v0, v1, v2, v3, v4, v5, v6, v7, v8, v9, v10, v11, v12, .va (.lst ((markZ own lot).map .int))] S = _
      have ei : intsD (.lst ((markZ own lot).map .int)) = markZ own lot := by
        show (toInts ((markZ own lot).map .int)).getD [] = _
        rw [toInts_map]; rfl
      rw [ei]
      have hm : (markZ own lot).length ≤ 100 := by
        have := hi lot hlot; unfold markZ; rw [List.length_map]; exact this
      generalize markZ own lot = m at hm
      have vv : ev G (.var 13) [v0, v1, v2, v3, v4, v5, v6, v7, v8, v9, v10, v11, v12, .va (.lst (m.map .int))] S = .ok (.lst (m.map .int)) S := e_var rfl
      have l1 := e_len vv
      rw [List.length_map] at l1
      have c1 := e_cmp l1 (e_int (n := 2)) c_lt
      have c2 := e_cmp (e_lenSet vv (toInts_map m) (by omega)) l1 c_lt
      refine e_or ?_
      unfold badM
      have d1 : decide ((m.length : Int) < 2) = decide (m.length < 2) := by
        rw [decide_eq_decide]; omega
      have d2 : decide (((dedup m).length : Int) < (m.length : Int)) = decide ((dedup m).length < m.length) := by
        rw [decide_eq_decide]; omega
      rw [d1] at c1
      rw [d2] at c2
      cases h1 : decide (m.length < 2) with
      | true => rw [h1] at c1; exact o_t c1
      | false =>
        rw [h1] at c1
        cases h2 : decide ((dedup m).length < m.length) with
        | true => rw [h2] at c2; exact o_f c1 (o_t c2)
        | false => rw [h2] at c2; exact o_f c1 (o_f c2 o_nil)) (fun x _ _ => e_int)
  rw [e_cmp e e_lst0 (eq_nil (by
    rw [List.all_eq_true]
    intro x hx
    obtain ⟨_, _, rfl⟩ := List.mem_map.1 hx
    rfl))]
  congr 2
  rw [List.isEmpty_map, List.filter_map, List.isEmpty_map]
  unfold goodP
  have : ((fun d => badM (intsD d)) ∘ fun lot => D.lst ((markZ own lot).map .int)) = fun lot => badM (markZ own lot) := by
    funext lot
    show badM ((toInts ((markZ own lot).map .int)).getD []) = _
    rw [toInts_map]; rfl
  rw [this]
  rw [Bool.eq_iff_iff, List.isEmpty_iff, List.filter_eq_nil_iff, Bool.not_eq_true', List.any_eq_false]
theorem look_ok {G : Ga} {own : List Nat} {lots : List (List Nat)} {v0 v1 v2 v6 v7 v8 v9 v10 v11 v12 v13 : Sl} {c : Nat} {S : Sto} (hx : ∀ lot ∈ lots, ∀ x ∈ lot, x < own.length) (hl : lots.length ≤ 100) (hi : ∀ lot ∈ lots, lot.length ≤ 100) :
    ∃ w, xss G lB [v0, v1, v2, .va (.lst (own.map nD)), .va (nD c), .va (tL lots), v6, v7, v8, v9, v10, v11, v12, v13] S = .ok (.nx [v0, v1, v2, .va (.lst (own.map nD)), .va (nD (c + (if goodP own lots = true then 1 else 0))), .va (tL lots), v6, v7, v8, v9, v10, w, v12, v13]) S := by
  refine ⟨.va (.lst (lots.map fun lot => .lst ((markZ own lot).map .int))), ?_⟩
  unfold lB
  have m := marks_ok (G := G) (own := own) (lots := lots) (v := [v0, v1, v2, .va (.lst (own.map nD)), .va (nD c), .va (tL lots), v6, v7, v8, v9, v10, v11, v12, v13]) (S := S) rfl rfl rfl hx hl hi
  rw [x_cons (v' := [v0, v1, v2, .va (.lst (own.map nD)), .va (nD c), .va (tL lots), v6, v7, v8, v9, v10, .ol (lots.map fun lot => .lst ((markZ own lot).map .int)), v12, v13]) (S' := S) (by
    rw [xs1, m]; rfl)]
  rw [x_cons (v' := [v0, v1, v2, .va (.lst (own.map nD)), .va (nD c), .va (tL lots), v6, v7, v8, v9, v10, .va (.lst (lots.map fun lot => .lst ((markZ own lot).map .int))), v12, v13]) (S' := S) (by
    rw [xs1]; rfl)]
  have cc := cond_ok (G := G) (own := own) (lots := lots) (v := [v0, v1, v2, .va (.lst (own.map nD)), .va (nD c), .va (tL lots), v6, v7, v8, v9, v10, .va (.lst (lots.map fun lot => .lst ((markZ own lot).map .int))), v12, v13]) (S := S) rfl rfl hl hi
  cases hg : goodP own lots with
  | true =>
    rw [hg] at cc
    rw [x_cons (v' := [v0, v1, v2, .va (.lst (own.map nD)), .va (nD (c + 1)), .va (tL lots), v6, v7, v8, v9, v10, .va (.lst (lots.map fun lot => .lst ((markZ own lot).map .int))), v12, v13]) (S' := S) (x_if_t cc (by
      rw [x_cons (x_asg (e_bin (e_var (d := .int (c : Int)) rfl) e_int b_add)), x_nil]
      rfl)), x_nil]
    rfl
  | false =>
    rw [hg] at cc
    rw [x_cons (x_if_f cc x_nil), x_nil]
    rfl
end Mi.L71

set_option linter.all false
set_option maxRecDepth 100000
set_option maxHeartbeats 1000000
namespace Mi.L71
open Mi
def sB : Sms := .cons (.asg 9 (.call 2 (.cons (.var 1) (.cons (.bin .add (.int 1) (.min2 (.var 8) (.int 4))) .nil)))) (.cons (.par 7 false (.bin .add (.var 7) (.lst (.cons (.var 9) .nil))) 8 false (.bin .sub (.var 8) (.var 9))) .nil)
def oB : Sms := .cons (.asg 3 (.bin .add (.var 3) (.bin .mul (.lst (.cons (.var 10) .nil)) (.var 9)))) .nil
abbrev G39 : Ga := gaOf P 100000 39
theorem e_min2 {G : Ga} {a b : Ex} {v : Env} {S S1 S2 : Sto} {i j : Nat} (ha : ev G a v S = .ok (nD i) S1) (hb : ev G b v S1 = .ok (nD j) S2) : ev G (.min2 a b) v S = .ok (nD (min i j)) S2 := by
  rw [ev, ha]
  simp only [R.bind, nD, hb]
  congr 2
  split <;> omega
theorem x_par {G : Ga} {i j : Nat} {a b : Ex} {v : Env} {S S1 S2 : Sto} {x y : D} (ha : ev G a v S = .ok x S1) (hb : ev G b v S1 = .ok y S2) : xs1 G (.par i false a j false b) v S = .ok (.nx (setN (setN v i (.va x)) j (.va y))) S2 := by
  rw [xs1, ha]; simp only [R.bind, hb]; rfl
theorem size_step {n c left : Nat} {ks : List Nat} {v0 w2 w3 w4 w5 w6 w9 w10 w11 w12 w13 : Sl} {S : Sto} (p : PenS c S) (hc : c < 1000) (hk : ks.length < 100) : ∃ s S', xss (gaOf P 100000 (n + 1)) sB [v0, .va (.dr 0), w2, w3, w4, w5, w6, .va (.lst (ks.map nD)), .va (nD left), w9, w10, w11, w12, w13] S = .ok (.nx [v0, .va (.dr 0), w2, w3, w4, w5, w6, .va (.lst ((ks ++ [s]).map nD)), .va (nD (left - s)), .va (nD s), w10, w11, w12, w13]) S' ∧ s ≤ min left 4 ∧ PenS (c + 1) S' := by
  obtain ⟨s, S', e, hs, p'⟩ := draw_call (n := n) (m := 1 + min left 4) p (by omega) (by omega) (by omega)
  refine ⟨s, S', ?_, by omega, p'⟩
  unfold sB
  have m : ev (gaOf P 100000 (n + 1)) (.bin .add (.int 1) (.min2 (.var 8) (.int 4))) [v0, .va (.dr 0), w2, w3, w4, w5, w6, .va (.lst (ks.map nD)), .va (nD left), w9, w10, w11, w12, w13] S = .ok (nD (1 + min left 4)) S := by
    have e4 : ev (gaOf P 100000 (n + 1)) (.int 4) [v0, .va (.dr 0), w2, w3, w4, w5, w6, .va (.lst (ks.map nD)), .va (nD left), w9, w10, w11, w12, w13] S = .ok (nD 4) S := e_int
    have := e_bin (G := gaOf P 100000 (n + 1)) (e_int (n := 1)) (e_min2 (j := 4) (e_var (i := 8) (v := [v0, .va (.dr 0), w2, w3, w4, w5, w6, .va (.lst (ks.map nD)), .va (nD left), w9, w10, w11, w12, w13]) (S := S) (d := nD left) rfl) e4) b_add
    rw [this]
    unfold nD
    congr 2
  have d : ev (gaOf P 100000 (n + 1)) (.call 2 (.cons (.var 1) (.cons (.bin .add (.int 1) (.min2 (.var 8) (.int 4))) .nil))) [v0, .va (.dr 0), w2, w3, w4, w5, w6, .va (.lst (ks.map nD)), .va (nD left), w9, w10, w11, w12, w13] S = .ok (nD s) S' := by
    rw [e_call (e_evs (e_var rfl) (e_evs m e_evs_nil))]; exact e
  rw [x_cons (x_asg d)]
  have a : ev (gaOf P 100000 (n + 1)) (.bin .add (.var 7) (.lst (.cons (.var 9) .nil))) [v0, .va (.dr 0), w2, w3, w4, w5, w6, .va (.lst (ks.map nD)), .va (nD left), .va (nD s), w10, w11, w12, w13] S' = .ok (.lst ((ks ++ [s]).map nD)) S' := by
    have := e_bin (G := gaOf P 100000 (n + 1)) (e_var (i := 7) (v := [v0, .va (.dr 0), w2, w3, w4, w5, w6, .va (.lst (ks.map nD)), .va (nD left), .va (nD s), w10, w11, w12, w13]) (S := S') (d := .lst (ks.map nD)) rfl) (e_lst1 (e_var (i := 9) (d := nD s) rfl)) (b_addL (by simp [SZ]; omega))
    rw [this, List.map_append]; rfl
  have b : ev (gaOf P 100000 (n + 1)) (.bin .sub (.var 8) (.var 9)) [v0, .va (.dr 0), w2, w3, w4, w5, w6, .va (.lst (ks.map nD)), .va (nD left), .va (nD s), w10, w11, w12, w13] S' = .ok (nD (left - s)) S' := by
    have := e_bin (G := gaOf P 100000 (n + 1)) (e_var (i := 8) (v := [v0, .va (.dr 0), w2, w3, w4, w5, w6, .va (.lst (ks.map nD)), .va (nD left), .va (nD s), w10, w11, w12, w13]) (S := S') (d := .int (left : Int)) rfl) (e_var (i := 9) (d := .int (s : Int)) rfl) b_sub
    rw [this]
    unfold nD
    congr 2
    omega
  exact (x_cons (x_par a b)).trans x_nil
theorem numb_get : ∀ (l : List D) (i : Int) (k : Nat) (x : D), (numb i l)[k]? = some x → ∃ y, l[k]? = some y ∧ x = .tup [.int (i + (k : Int)), y]
  | [], i, k, x, h => by simp [numb] at h
  | y :: l, i, 0, x, h => by
    refine ⟨y, rfl, ?_⟩
    have : x = .tup [.int i, y] := (Option.some.inj h).symm
    rw [this]; simp
  | y :: l, i, k + 1, x, h => by
    obtain ⟨z, hz, e⟩ := numb_get l (i + 1) k x h
    refine ⟨z, hz, ?_⟩
    rw [e]
    congr 3
    omega
theorem numb_len : ∀ (l : List D) (i : Int), (numb i l).length = l.length
  | [], _ => rfl
  | _ :: l, i => by rw [numb, List.length_cons, numb_len l, List.length_cons]
theorem own_step {G : Ga} {ks : List Nat} {s : Nat} {v0 v1 w2 w4 w5 w6 w7 w8 w11 w12 w13 : Sl} {S : Sto} (hl : ks.sum ≤ 100) (hs : s ≤ 100) : xss G oB [v0, v1, w2, .va (.lst ((ownN ks).map nD)), w4, w5, w6, w7, w8, .va (nD s), .va (nD ks.length), w11, w12, w13] S = .ok (.nx [v0, v1, w2, .va (.lst ((ownN (ks ++ [s])).map nD)), w4, w5, w6, w7, w8, .va (nD s), .va (nD ks.length), w11, w12, w13]) S := by
  unfold oB
  have hr := e_bin (G := G) (e_lst1 (e_var (i := 10) (v := [v0, v1, w2, .va (.lst ((ownN ks).map nD)), w4, w5, w6, w7, w8, .va (nD s), .va (nD ks.length), w11, w12, w13]) (S := S) (d := nD ks.length) rfl)) (e_var (i := 9) (d := nD s) rfl) (b_rep (by omega))
  have := e_bin (G := G) (e_var (i := 3) (v := [v0, v1, w2, .va (.lst ((ownN ks).map nD)), w4, w5, w6, w7, w8, .va (nD s), .va (nD ks.length), w11, w12, w13]) (S := S) (d := .lst ((ownN ks).map nD)) rfl) hr (b_addL (by
    have := own_len ks 0
    unfold ownN
    simp [SZ]; omega))
  rw [x_cons (x_asg this), x_nil]
  unfold ownN
  rw [own_snoc, List.map_append, List.map_replicate, Nat.zero_add]
  rfl
theorem count_snoc (own : List Nat) (l : List (List (List Nat))) (k : Nat) (x : List (List Nat)) (h : l[k]? = some x) : ((l.take (k + 1)).filter (goodP own)).length = ((l.take k).filter (goodP own)).length + (if goodP own x = true then 1 else 0) := by
  have hk : k < l.length := by
    rcases Nat.lt_or_ge k l.length with h1 | h1
    · exact h1
    · rw [List.getElem?_eq_none h1] at h; cases h
  have hx : l[k] = x := by
    rw [List.getElem?_eq_getElem hk] at h; exact Option.some.inj h
  rw [List.take_succ_eq_append_getElem hk, List.filter_append, List.length_append, hx]
  congr 1
  cases hg : goodP own x <;> simp [hg]
end Mi.L71

set_option linter.all false
set_option maxRecDepth 100000
set_option maxHeartbeats 1000000
namespace Mi.L71
open Mi
abbrev Un := Sl.un
theorem law_pure (ns : List Int) : ∃ S, callN P 100000 40 0 [.lst (ns.map .int)] [] = .ok (.bl true) S := by
  rw [call_run (n := 39) (f := ff0) (es := [.lst (ns.map .int)]) rfl rfl rfl]
  show ∃ S, (xss G39 bd0 [.va (.lst (ns.map .int)), .un, .un, .un, .un, .un, .un, .un, .un, .un, .un, .un, .un, .un] []).bind _ = _
  generalize hv0 : Sl.va (D.lst (ns.map .int)) = v0
  obtain ⟨S0, e0, p0⟩ := pen_call (n := 38) (ns := ns)
  unfold bd0
  have a0 : ev G39 (.call 1 (.cons (.var 0) .nil)) [v0, .un, .un, .un, .un, .un, .un, .un, .un, .un, .un, .un, .un, .un] [] = .ok (.dr 0) S0 := by
    subst hv0
    rw [e_call (e_evs (e_var (i := 0) rfl) e_evs_nil)]; exact e0
  rw [x_cons (x_asg a0)]
  rw [x_cons (v' := [v0, .va (.dr 0), .un, .un, .un, .un, .un, .va (.lst (([] : List Nat).map nD)), .va (nD 7), .un, .un, .un, .un, .un]) (S' := S0) (x_par e_lst0 e_int)]
  -- how many lots
  obtain ⟨r, S1, e1, hr, p1⟩ := draw_call (n := 38) (m := 5) p0 (by decide) (by decide) (by decide)
  have a1 : ev G39 (.bin .add (.int 1) (.call 2 (.cons (.var 1) (.cons (.int 5) .nil)))) [v0, .va (.dr 0), .un, .un, .un, .un, .un, .va (.lst (([] : List Nat).map nD)), .va (nD 7), .un, .un, .un, .un, .un] S0 = .ok (.int ((1 + r : Nat) : Int)) S1 := by
    have := e_bin (G := G39) (e_int (n := 1)) (b := .call 2 (.cons (.var 1) (.cons (.int 5) .nil))) (v := [v0, .va (.dr 0), .un, .un, .un, .un, .un, .va (.lst (([] : List Nat).map nD)), .va (nD 7), .un, .un, .un, .un, .un]) (S := S0) (y := .int (r : Int)) (S2 := S1) (by
      rw [e_call (e_evs (e_var rfl) (e_evs e_int e_evs_nil))]; exact e1) b_add
    rw [this]
    congr 2
  obtain ⟨v2, S2, e2, ⟨ks, w2, w9, rfl, hl, hk, hs⟩, p2⟩ := forL_ex (f := fun x v S => match bindPt (.nm 2) x v with | some w => xss G39 sB w S | none => .bad) (upto (1 + r) 0)
    (fun k v S => (∃ ks : List Nat, ∃ w2 w9, v = [v0, .va (.dr 0), w2, .un, .un, .un, .un, .va (.lst (ks.map nD)), .va (nD (7 - ks.sum)), w9, .un, .un, .un, .un] ∧ ks.length = k ∧ (∀ x ∈ ks, x ≤ 4) ∧ ks.sum ≤ 7) ∧ PenS (1 + k) S) (fun k x v S hx hi => by
      obtain ⟨hk, rfl⟩ := upto_get hx
      obtain ⟨⟨ks, w2, w9, rfl, hl, hle, hs⟩, p⟩ := hi
      obtain ⟨s, S', e, hs', p'⟩ := size_step (n := 38) (c := 1 + k) (left := 7 - ks.sum) (ks := ks) (v0 := v0) (w2 := .va (nD k)) (w3 := .un) (w4 := .un) (w5 := .un) (w6 := .un) (w9 := w9) (w10 := .un) (w11 := .un) (w12 := .un) (w13 := .un) p (by omega) (by omega)
      refine ⟨_, S', e, ⟨ks ++ [s], .va (nD k), .va (nD s), ?_, by simp; omega, ?_, by simp; omega⟩, p'⟩
      · have : 7 - ks.sum - s = 7 - (ks ++ [s]).sum := by simp; omega
        rw [this]
      · intro x hx
        rcases List.mem_append.1 hx with hx | hx
        · exact hle x hx
        · simp at hx; subst hx; omega) [v0, .va (.dr 0), .un, .un, .un, .un, .un, .va (.lst (([] : List Nat).map nD)), .va (nD 7), .un, .un, .un, .un, .un] S1 ⟨⟨[], .un, .un, rfl, rfl, by simp, by simp⟩, p1⟩
  rw [upto_len] at hl p2
  rw [x_cons (v' := [v0, .va (.dr 0), w2, .un, .un, .un, .un, .va (.lst (ks.map nD)), .va (nD (7 - ks.sum)), w9, .un, .un, .un, .un]) (S' := S2) (by
    rw [xs1, t_rng (n := 1 + r) a1 (by omega)]
    exact e2)]
  have hl5 : ks.length ≤ 5 := by omega
  -- each thing's lot
  rw [x_cons (v' := [v0, .va (.dr 0), w2, .va (.lst ((ownN []).map nD)), .un, .un, .un, .va (.lst (ks.map nD)), .va (nD (7 - ks.sum)), w9, .un, .un, .un, .un]) (S' := S2) (x_asg e_lst0)]
  obtain ⟨v3, S3, e3, ⟨w9', w10', rfl⟩, rfl⟩ := forL_ex (f := fun x v S => match bindPt (.tp [10, 9]) x v with | some w => xss G39 oB w S | none => .bad) (numb 0 (ks.map nD))
    (fun k v S => (∃ w9 w10, v = [v0, .va (.dr 0), w2, .va (.lst ((ownN (ks.take k)).map nD)), .un, .un, .un, .va (.lst (ks.map nD)), .va (nD (7 - ks.sum)), w9, w10, .un, .un, .un]) ∧ S = S2) (fun k x v S hx hi => by
      obtain ⟨y, hy, rfl⟩ := numb_get _ _ _ _ hx
      obtain ⟨⟨w9, w10, rfl⟩, rfl⟩ := hi
      rw [List.getElem?_map] at hy
      obtain ⟨s, hs1, hs2⟩ := Option.map_eq_some_iff.1 hy
      subst hs2
      have hkl : k < ks.length := by
        rcases Nat.lt_or_ge k ks.length with h1 | h1
        · exact h1
        · rw [List.getElem?_eq_none h1] at hs1; cases hs1
      have hx : ks[k] = s := by
        rw [List.getElem?_eq_getElem hkl] at hs1; exact Option.some.inj hs1
      have ht : (ks.take k).length = k := by rw [List.length_take]; omega
      have hsum : (ks.take k).sum ≤ 7 := by
        have : (ks.take k).sum + (ks.drop k).sum = ks.sum := by rw [← List.sum_append, List.take_append_drop]
        omega
      have hs4 : s ≤ 4 := by rw [← hx]; exact hk _ (List.getElem_mem hkl)
      have o := own_step (G := G39) (ks := ks.take k) (s := s) (v0 := v0) (v1 := .va (.dr 0)) (w2 := w2) (w4 := .un) (w5 := .un) (w6 := .un) (w7 := .va (.lst (ks.map nD))) (w8 := .va (nD (7 - ks.sum))) (w11 := .un) (w12 := .un) (w13 := .un) (S := S) (by omega) (by omega)
      refine ⟨_, S, ?_, ⟨.va (nD s), .va (nD k), rfl⟩, rfl⟩
      rw [List.take_succ_eq_append_getElem hkl, hx]
      rw [ht] at o
      have hb : bindPt (.tp [10, 9]) (.tup [.int (0 + (k : Int)), nD s]) [v0, .va (.dr 0), w2, .va (.lst ((ownN (ks.take k)).map nD)), .un, .un, .un, .va (.lst (ks.map nD)), .va (nD (7 - ks.sum)), w9, w10, .un, .un, .un] = some [v0, .va (.dr 0), w2, .va (.lst ((ownN (ks.take k)).map nD)), .un, .un, .un, .va (.lst (ks.map nD)), .va (nD (7 - ks.sum)), .va (nD s), .va (.int (0 + (k : Int))), .un, .un, .un] := rfl
      simp only [hb]
      rw [Int.zero_add]
      exact o) [v0, .va (.dr 0), w2, .va (.lst ((ownN []).map nD)), .un, .un, .un, .va (.lst (ks.map nD)), .va (nD (7 - ks.sum)), w9, .un, .un, .un, .un] S2 ⟨⟨w9, .un, rfl⟩, rfl⟩
  rw [numb_len, List.length_map, List.take_length] at e3
  rw [x_cons (v' := [v0, .va (.dr 0), w2, .va (.lst ((ownN ks).map nD)), .un, .un, .un, .va (.lst (ks.map nD)), .va (nD (7 - ks.sum)), w9', w10', .un, .un, .un]) (S' := S3) (by
    rw [xs1, evt, evl, e_var (d := .lst (ks.map nD)) rfl]
    exact e3)]
  -- counting
  rw [x_cons (v' := [v0, .va (.dr 0), w2, .va (.lst ((ownN ks).map nD)), .va (nD 0), .un, .un, .va (.lst (ks.map nD)), .va (nD (7 - ks.sum)), w9', w10', .un, .un, .un]) (S' := S3) (x_asg e_int)]
  have hown : (ownN ks).length = ks.sum := own_len ks 0
  obtain ⟨v4, S4, e4, ⟨w5, w11, rfl⟩, rfl⟩ := forL_ex (f := fun x v S => match bindPt (.nm 5) x v with | some w => xss G39 lB w S | none => .bad) ((partsN (ownN ks).length).map tL)
    (fun k v S => (∃ w5 w11, v = [v0, .va (.dr 0), w2, .va (.lst ((ownN ks).map nD)), .va (nD (((partsN (ownN ks).length).take k).filter (goodP (ownN ks))).length), w5, .un, .va (.lst (ks.map nD)), .va (nD (7 - ks.sum)), w9', w10', w11, .un, .un]) ∧ S = S3) (fun k x v S hx hi => by
      obtain ⟨⟨w5, w11, rfl⟩, rfl⟩ := hi
      rw [List.getElem?_map] at hx
      obtain ⟨lots, hq, rfl⟩ := Option.map_eq_some_iff.1 hx
      have hm := List.mem_of_getElem? hq
      have hin := partsN_in _ lots hm
      obtain ⟨w, e⟩ := look_ok (G := G39) (own := ownN ks) (lots := lots) (v0 := v0) (v1 := .va (.dr 0)) (v2 := w2) (v6 := .un) (v7 := .va (.lst (ks.map nD))) (v8 := .va (nD (7 - ks.sum))) (v9 := w9') (v10 := w10') (v11 := w11) (v12 := .un) (v13 := .un) (c := (((partsN (ownN ks).length).take k).filter (goodP (ownN ks))).length) (S := S) (partsN_lt _ lots hm) (by omega) (fun lot h => by have := hin.2 lot h; omega)
      refine ⟨_, S, e, ⟨.va (tL lots), w, ?_⟩, rfl⟩
      rw [count_snoc _ _ _ _ hq]) [v0, .va (.dr 0), w2, .va (.lst ((ownN ks).map nD)), .va (nD 0), .un, .un, .va (.lst (ks.map nD)), .va (nD (7 - ks.sum)), w9', w10', .un, .un, .un] S3 ⟨⟨.un, .un, rfl⟩, rfl⟩
  rw [List.length_map, List.take_length] at e4
  have hlen : ev G39 (.len (.ex (.var 3))) [v0, .va (.dr 0), w2, .va (.lst ((ownN ks).map nD)), .va (nD 0), .un, .un, .va (.lst (ks.map nD)), .va (nD (7 - ks.sum)), w9', w10', .un, .un, .un] S4 = .ok (nD (ownN ks).length) S4 := by
    have := e_len (G := G39) (e_var (i := 3) (v := [v0, .va (.dr 0), w2, .va (.lst ((ownN ks).map nD)), .va (nD 0), .un, .un, .va (.lst (ks.map nD)), .va (nD (7 - ks.sum)), w9', w10', .un, .un, .un]) (S := S4) (d := .lst ((ownN ks).map nD)) rfl)
    rw [List.length_map] at this
    exact this
  rw [x_cons (v' := [v0, .va (.dr 0), w2, .va (.lst ((ownN ks).map nD)), .va (nD (countP (ownN ks))), w5, .un, .va (.lst (ks.map nD)), .va (nD (7 - ks.sum)), w9', w10', w11, .un, .un]) (S' := S4) (by
    rw [xs1, t_seq (by rw [e_call (e_evs hlen e_evs_nil)]; exact parts_ok (m := 38) (by omega))]
    exact e4)]
  -- what is told
  obtain ⟨mz, mo⟩ := mix_tbl hs hk
  obtain ⟨q, S5, e5, hq, p5⟩ := listed_call (n := 37) (l := ks.map nD) p2 (by omega)
  have ct : (countP (ownN ks) : Int) = mixZ ks := by rw [row_ok hl5 hk hs, mz]
  have a5 : ev G39 (.call 4 (.cons (.call 5 (.cons (.var 1) (.cons (.var 7) .nil))) .nil)) [v0, .va (.dr 0), w2, .va (.lst ((ownN ks).map nD)), .va (nD (countP (ownN ks))), w5, .un, .va (.lst (ks.map nD)), .va (nD (7 - ks.sum)), w9', w10', w11, .un, .un] S4 = .ok (nD (countP (ownN ks))) S5 := by
    rw [e_call (e_evs (d := q) (S1 := S5) (by
      rw [e_call (e_evs (e_var rfl) (e_evs (e_var rfl) e_evs_nil))]; exact e5) e_evs_nil)]
    have := mixed_ok (n := 30) (S := S5) hq (by omega) (by omega) mo
    rw [← ct] at this
    exact this
  rw [x_cons (v' := [v0, .va (.dr 0), w2, .va (.lst ((ownN ks).map nD)), .va (nD (countP (ownN ks))), w5, .va (nD (countP (ownN ks))), .va (.lst (ks.map nD)), .va (nD (7 - ks.sum)), w9', w10', w11, .un, .un]) (S' := S5) (x_asg a5)]
  generalize hv : ([v0, .va (.dr 0), w2, .va (.lst ((ownN ks).map nD)), .va (nD (countP (ownN ks))), w5, .va (nD (countP (ownN ks))), .va (.lst (ks.map nD)), .va (nD (7 - ks.sum)), w9', w10', w11, .un, .un] : Env) = v
  have v1 : getN v 1 = some (.va (.dr 0)) := by subst hv; rfl
  have v6 : getN v 6 = some (.va (.int (countP (ownN ks) : Int))) := by subst hv; rfl
  have v4 : getN v 4 = some (.va (.int (countP (ownN ks) : Int))) := by subst hv; rfl
  have v7 : getN v 7 = some (.va (.lst (ks.map nD))) := by subst hv; rfl
  have i1 : ev G39 (.not (.isI (.var 6) [.int] false)) v S5 = .ok (.bl false) S5 := e_not (b := true) (by rw [ev, e_var v6]; rfl)
  have i2 : ev G39 (.isI (.var 6) [.bool] false) v S5 = .ok (.bl false) S5 := by rw [ev, e_var v6]; rfl
  have i3 : ev G39 (.cmp .ne (.var 6) (.var 4)) v S5 = .ok (.bl false) S5 := by
    rw [e_cmp (e_var v6) (e_var v4) c_ne]; simp
  rw [x_cons (x_if_f (e_or (o_f i1 (o_f i2 (o_f i3 o_nil)))) x_nil)]
  -- the second telling
  obtain ⟨ks', S6, e6, hp, p6⟩ := shuffled_call (n := 37) (ks := ks ++ [0]) p5 (by simp; omega)
  have hp4 : ∀ k ∈ ks', k ≤ 4 := fun k h => by
    have := hp.mem_iff.1 h
    rcases List.mem_append.1 this with h | h
    · exact hk k h
    · simp at h; omega
  have hps : ks'.sum ≤ 7 := by
    have := hp.sum_nat
    simp at this; omega
  have hpl : ks'.length ≤ 6 := by
    have := hp.length_eq
    simp at this; omega
  obtain ⟨mz', mo'⟩ := mix_tbl hps hp4
  have hc : mixZ ks' = (countP (ownN ks) : Int) := by rw [mz', codes_perm hp, codes_zero, ← mz, ct]
  have ea : ev G39 (.bin .add (.var 7) (.lst (.cons (.int 0) .nil))) v S5 = .ok (.lst ((ks ++ [0]).map nD)) S5 := by
    have := e_bin (G := G39) (e_var (S := S5) v7) (e_lst1 e_int) (b_addL (b := [.int 0]) (by simp [SZ]; omega))
    rw [this, List.map_append]; rfl
  have b1 : ev G39 (.call 4 (.cons (.call 6 (.cons (.var 1) (.cons (.bin .add (.var 7) (.lst (.cons (.int 0) .nil))) .nil))) .nil)) v S5 = .ok (.int (countP (ownN ks) : Int)) S6 := by
    rw [e_call (e_evs (d := .lst (ks'.map nD)) (S1 := S6) (by
      rw [e_call (e_evs (e_var v1) (e_evs ea e_evs_nil))]; exact e6) e_evs_nil)]
    have := mixed_ok (n := 30) (S := S6) (.inl rfl) (by omega) (by omega) mo'
    rw [hc] at this
    exact this
  have b2 : ev G39 (.cmp .eq (.call 4 (.cons (.call 6 (.cons (.var 1) (.cons (.bin .add (.var 7) (.lst (.cons (.int 0) .nil))) .nil))) .nil)) (.var 6)) v S5 = .ok (.bl true) S6 := by
    rw [e_cmp b1 (e_var v6) c_eq]; simp
  obtain ⟨mz0, mo0⟩ := mix_tbl (ks := []) (by simp) (by simp)
  have b3 : ev G39 (.call 4 (.cons (.tup (.nil)) .nil)) v S6 = .ok (.int 1) S6 := by
    rw [e_call (e_evs (d := .tup (([] : List Nat).map nD)) (S1 := S6) (by rw [ev, e_evs_nil]; rfl) e_evs_nil)]
    have := mixed_ok (n := 30) (S := S6) (.inr rfl) (by simp) (by simp) mo0
    have h1 : mixZ [] = 1 := by rw [mz0]; decide +kernel
    rw [h1] at this
    exact this
  have b4 : ev G39 (.cmp .eq (.call 4 (.cons (.tup (.nil)) .nil)) (.int 1)) v S6 = .ok (.bl true) S6 := by
    rw [e_cmp b3 e_int c_eq]; rfl
  refine ⟨S6, ?_⟩
  rw [x_ret (e_and (a_t b2 (a_t b4 a_nil)))]
  rfl
end Mi.L71

set_option Elab.async false
set_option linter.all false
set_option maxRecDepth 100000
set_option maxHeartbeats 0
namespace Mi.L71
open Mi
theorem fns_eq : (Mi.Law.table.defs.map (·.f)) = fns := by rfl
theorem cls_eq : (Mi.Law.table.clss.map (·.cl)) = clss := by rfl
theorem cons_eq : (Mi.Law.table.cons.map (·.2)) = cons := by rfl
theorem pg_eq : Mi.pgOf Mi.Law.table = P := by
  unfold Mi.pgOf P
  congr 1
  · funext i; rw [← List.getElem?_map, fns_eq]
  · funext i; rw [← List.getElem?_map, cls_eq]
  · funext i; rw [← List.getElem?_map, cons_eq]
theorem law71 : ∀ ns : List Int, ns.length ≤ 63 → ∃ S, Mi.callN (Mi.pgOf Mi.Law.table) 100000 40 0 [.lst (ns.map .int)] [] = .ok (.bl true) S := fun ns _ => by
  rw [pg_eq]; exact law_pure ns
end Mi.L71
open PySem PySem.W PySem.Calls PyProof.Rows
theorem PySem.Challenge.cw_matchroots_k71_whole_mixed_lots_holds : PySem.Challenge.rw_matchroots_k71_whole_mixed_lots.Holds := by
  w_on; o_law
  refine HandSHeadRun.head_imp (r := OpenLaw.row PySem.Challenge.rw_matchroots_k71_whole_mixed_lots) (q := view (OpenLaw.row PySem.Challenge.rw_matchroots_k71_whole_mixed_lots).prog [0, 45]) (H := Mi.Law.hk) (ob := Mi.Law.ob) (M := 12000) (loose := Mi.Law.nm0 ++ Mi.Law.nm1) (d := HandSHeadRun.topDef (OpenLaw.row PySem.Challenge.rw_matchroots_k71_whole_mixed_lots).prog 45) (kwd := []) Mi.Law.ob_eq Mi.Law.run
    (by kernel_rfl) (by kernel_rfl) (by rfl) (by decide +kernel) (by decide +kernel) (by kernel_rfl) ⟨rfl, rfl, rfl, rfl, rfl, by decide +kernel⟩ ?hw ?hc
  case hw => w_witness2
  case hc =>
    exact Mi.law_end (l := PySem.Challenge.rw_matchroots_k71_whole_mixed_lots) (n := 63) (x := "script") (L := Mi.Law.table) (fuel := 100000) (N := 40) (i0 := 0) (d0 := Mi.Law.fd0) rfl (by decide) (by kernel_rfl) ⟨rfl, by decide, by decide⟩ rfl rfl rfl rfl rfl rfl (by kernel_rfl) rfl Mi.Law.st_ok Mi.Law.bnd
      (fun K a fd F s u => L2.FunD.bindsA (ps := ["script"]) F (fun _ _ _ _ _ _ us hl => match us, hl with | [_], _ => rfl) s [u] rfl)
      (fun w h ⟨K, a, b, c⟩ => ⟨K, a, b, c⟩) Mi.L71.law71

