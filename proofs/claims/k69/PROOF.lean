import PyProof.Rows.All
import Wide.All
import OpenK.AllK
import Wide.FinOn
import KE.KStateDown
import HandS.Base
import HandS.Call
import HandS.List
import HandS.Comp
import HandS.Iter
import HandS.Dict
import HandS.Ends
import HandS.More
import HandS.Words
import HandS.WordsExc
import HandS.Exc
import HandS.ExcOwn
import HandS.CallSlots
import HandS.Defaults
import HandS.Gcd
import HandS.Wide
import HandS.IsInst
import HandS.HeadEnd
import HandS.HeadHook1
import HandS.HeadHook2
import HandS.Lambda
import HandS.Walk
import HandS.Zip
import HandS.TupAny
import HandS.TupMul
import HandS.Deep
import PyProof.Rows.RuleB_bool
import HandS.SortInts
import HandS.Conv
import HandS.Style
import HandS.OwnEq
import PyProof.InstNe
import PyProof.WalksMore
import PyProof.WalkInts
import PyProof.TupleIter
import PyProof.SumAny
import KE.KExcSuper
import HandS.ExcInit
import HandS.ExcField
import PyProof.CallFns
import HandS.HeadHook4
import HandS.HeadWalk
import HandS.Head0
import HandS.Head1
import HandS.Head2
import HandS.Head3
import PySem.Challenge.RW_matchroots_k69_whole_products_as_sums
import PyProof.TableCode
set_option linter.all false
set_option maxRecDepth 100000
/-! Mi, part 1: a small language of values, its syntax and its meaning (no model in sight). -/
namespace Mi

/-- values: what a Python value is worth -/
inductive D where
  | non | bl (b : Bool) | int (i : Int) | str (s : List Nat)
  | lst (l : List D) | tup (l : List D) | ins (c : Nat) (fs : List D) | dr (n : Nat) | fn (k : Nat)
  deriving Inhabited

/-- a dict of the store: keys are texts -/
abbrev Kv := List (List Nat × D)
abbrev Sto := List Kv

inductive R (α : Type) where
  | ok (a : α) (S : Sto) | ex (c : Nat) (fs : List D) (S : Sto) | bad
def R.bind {α β : Type} (r : R α) (k : α → Sto → R β) : R β := match r with
  | .ok a S => k a S
  | .ex c fs S => .ex c fs S
  | .bad => .bad

/-- what a call that may not raise gives -/
def R.nox {α : Type} (r : R α) : R α := match r with
  | .ex _ _ _ => .bad
  | r => r

/-- a slot: empty, a value, a list of the def's own, the object that __init__ fills -/
inductive Sl where
  | un | va (d : D) | ol (l : List D) | sf (c : Nat) (fs : List D)
abbrev Env := List Sl

inductive Bi where
  | add | sub | mul | fdiv | mod | pow | band | bor | bxor | shl | shr
inductive Cm where
  | lt | le | gt | ge | eq | ne | isin | notin
/-- what isinstance is asked for -/
inductive Ty where
  | int | bool | str | list | tuple | dict | cls (c : Nat)
/-- a target: a name, a tuple of names -/
inductive Pt where
  | nm (i : Nat) | tp (is : List Nat)

mutual
inductive Ex where
  | var (i : Nat) | int (n : Int) | bl (b : Bool) | non | str (s : List Nat)
  | con (k : Nat)
  | tup (es : Exs) | lst (es : Exs)
  | neg (a : Ex) | not (a : Ex)
  | bin (o : Bi) (a b : Ex)
  | cmp (o : Cm) (a b : Ex) | chn (o p : Cm) (a b c : Ex)
  | isN (a : Ex) | isNN (a : Ex)
  | and (es : Exs) | or (es : Exs)
  | ife (c a b : Ex)
  | idx (s : Sq) (i : Ex) | slc (s : Sq) (lo hi : Exo) | rev (s : Sq)
  | fld (a : Ex) (f : Nat)
  | sfl (i : Nat) (f : Nat)
  | call (f : Nat) (es : Exs) | new (c : Nat) (es : Exs) | mth (m : Nat) (a : Ex) (es : Exs)
  | len (s : Sq) | listOf (s : Sq) | tupOf (s : Sq) | sum (s : Sq) | all (s : Sq) | sorted (s : Sq) | lenSet (s : Sq)
  | max2 (a b : Ex) | min2 (a b : Ex) | intOf (a : Ex) | gcd (a b : Ex)
  | isI (a : Ex) (ts : List Ty) (t : Bool)
  | lamc (g : Nat) (a : Ex) | repr (a : Ex) | lamv (k : Nat) | actc (g : Nat) (e : Ex)
  | maxL (s : Sq) | minL (s : Sq) | anyL (s : Sq)
  | cat (a b : Ex) | reps (a b : Ex) | abs (a : Ex) | lsR1 (a : Ex) | lsR2 (a b : Ex)
  | dget (a : Ex) (k : List Nat)
  | disp (ks : List (List Nat)) (es : Exs)
  | comp (e : Ex) (own : List Nat) (p : Pt) (it : Wk) (c : Exo)
inductive Exs where
  | nil | cons (e : Ex) (es : Exs)
inductive Exo where
  | no | yes (e : Ex)
/-- an operand that is read item by item: a list of the def's own, any other -/
inductive Sq where
  | own (i : Nat) | ex (e : Ex)
/-- what a loop walks -/
inductive Wk where
  | seq (s : Sq) | rng1 (a : Ex) | rng2 (a b : Ex) | enum (s : Sq) | zip (s t : Sq)
end

mutual
inductive Sm where
  | asg (i : Nat) (e : Ex) | own (i : Nat) (e : Ex)
  | asgT (p : List Nat) (e : Ex)
  | par3 (i : Nat) (a : Ex) (j : Nat) (b : Ex) (l : Nat) (c : Ex)
  | par (i : Nat) (oi : Bool) (a : Ex) (j : Nat) (oj : Bool) (b : Ex)
  | exp (e : Ex)
  | app (i : Nat) (e : Ex) | appPop (i j : Nat) (e : Ex)
  | setI (i : Nat) (k e : Ex)
  | dset (i : Nat) (k : List Nat) (e : Ex)
  | sfl (i : Nat) (f : Nat) (e : Ex)
  | frz (i : Nat)
  | iff (c : Ex) (a b : Sms) | whl (c : Ex) (b : Sms) | for_ (p : Pt) (it : Wk) (b : Sms)
  | ret (e : Ex) | retN | pass | brk | cnt | never
  | raise (c : Nat) (es : Exs)
inductive Sms where
  | nil | cons (s : Sm) (ss : Sms)
end

/-! ### sizes -/
def SZ : Nat := 16777216

/-! ### operators on plain values -/
def mulOk (a b : Int) : Bool := decide (a.natAbs < 18446744073709551616) || decide (b.natAbs < 18446744073709551616) || decide (a.natAbs.log2 + b.natAbs.log2 < 900000)
def divOk (b : Int) : Bool := (decide (b ≠ 0) && decide (b.natAbs < 1073741824)) || (decide (0 < b) && decide (b.natAbs.log2 < 9000))
def powOk (a b : Int) : Bool := decide (0 ≤ b) && decide (b ≤ 1000000) && decide (a.natAbs < 18446744073709551616)
def b2 (b : Bool) : Int := if b then 1 else 0
def rep {α : Type} (l : List α) : Nat → List α
  | 0 => []
  | n + 1 => l ++ rep l n
def binP (o : Bi) (x y : D) : Option D := match o with
  | .add => (match x, y with
    | .int a, .int b => some (.int (a + b))
    | .lst a, .lst b => if a.length + b.length ≤ SZ then some (.lst (a ++ b)) else none
    | .tup a, .tup b => if a.length + b.length ≤ SZ then some (.tup (a ++ b)) else none
    | .str a, .str b => if a.length + b.length ≤ SZ then some (.str (a ++ b)) else none
    | _, _ => none)
  | .sub => (match x, y with
    | .int a, .int b => some (.int (a - b))
    | .bl a, .bl b => some (.int (b2 a - b2 b))
    | _, _ => none)
  | .mul => (match x, y with
    | .int a, .int b => if mulOk a b then some (.int (a * b)) else none
    | .lst a, .int b => if b < 9223372036854775808 ∧ -9223372036854775808 ≤ b ∧ a.length * b.toNat ≤ SZ then some (.lst (rep a b.toNat)) else none
    | _, _ => none)
  | .fdiv => (match x, y with
    | .int a, .int b => if divOk b then some (.int (a.fdiv b)) else none
    | _, _ => none)
  | .mod => (match x, y with
    | .int a, .int b => if b ≠ 0 then some (.int (a.fmod b)) else none
    | _, _ => none)
  | .pow => (match x, y with
    | .int a, .int b => if powOk a b then some (.int (a ^ b.toNat)) else none
    | _, _ => none)
  | _ => none

mutual
/-- == of plain data -/
def eqB : D → D → Bool
  | .non, .non => true
  | .bl a, .bl b => a == b
  | .bl a, .int j => b2 a == j
  | .int i, .bl b => i == b2 b
  | .int a, .int b => a == b
  | .str a, .str b => a == b
  | .lst a, .lst b => eqL a b
  | .tup a, .tup b => eqL a b
  | _, _ => false
def eqL : List D → List D → Bool
  | [], [] => true
  | x :: xs, y :: ys => eqB x y && eqL xs ys
  | _, _ => false
end
/-- plain data, not too deep -/
def shN : Nat → D → Bool
  | 0, _ => false
  | n + 1, d => match d with
    | .non => true
    | .bl _ => true
    | .int _ => true
    | .str s => s.all fun c => decide (c < 1114112)
    | .lst l => l.all (shN n)
    | .tup l => l.all (shN n)
    | _ => false
def eqD (x y : D) : Option Bool := if (shN 60 x && shN 60 y) = true then some (eqB x y) else none
def inD (x : D) (l : List D) : Option Bool := if (shN 60 x && l.all (shN 59)) = true then some (l.any fun y => eqB y x) else none
def cmpP (o : Cm) (x y : D) : Option Bool := match o with
  | .lt => (match x, y with
    | .int a, .int b => some (decide (a < b))
    | _, _ => none)
  | .le => (match x, y with
    | .int a, .int b => some (decide (a ≤ b))
    | _, _ => none)
  | .gt => (match x, y with
    | .int a, .int b => some (decide (b < a))
    | _, _ => none)
  | .ge => (match x, y with
    | .int a, .int b => some (decide (b ≤ a))
    | _, _ => none)
  | .eq => eqD x y
  | .ne => (eqD x y).map not
  | .isin => (match y with
    | .lst l => inD x l
    | .tup l => inD x l
    | _ => none)
  | .notin => (match y with
    | .lst l => (inD x l).map not
    | .tup l => (inD x l).map not
    | _ => none)

/-! ### places -/
def ixN (n : Nat) (i : Int) : Option Nat := if 0 ≤ i then (if i < n then some i.toNat else none) else if -(n : Int) ≤ i then some (i + n).toNat else none
def atI {α : Type} (l : List α) (i : Int) : Option α := (ixN l.length i).bind fun j => l[j]?
def clip (n d : Nat) : Option Int → Nat
  | none => d
  | some i => if i < 0 then (i + n).toNat else min i.toNat n
def cut {α : Type} (l : List α) (lo hi : Option Int) : List α := (l.drop (clip l.length 0 lo)).take (clip l.length l.length hi - clip l.length 0 lo)
def setN {α : Type} : List α → Nat → α → List α
  | [], _, _ => []
  | _ :: l, 0, a => a :: l
  | x :: l, n + 1, a => x :: setN l n a
def getN {α : Type} : List α → Nat → Option α
  | [], _ => none
  | a :: _, 0 => some a
  | _ :: l, n + 1 => getN l n
def upto : Nat → Int → List D
  | 0, _ => []
  | n + 1, i => .int i :: upto n (i + 1)
def numb : Int → List D → List D
  | _, [] => []
  | i, x :: l => .tup [.int i, x] :: numb (i + 1) l
def zipD : List D → List D → List D
  | x :: l, y :: m => .tup [x, y] :: zipD l m
  | _, _ => []

/-! ### the program -/
structure Fn where
  np : Nat
  ns : Nat
  dfl : List D
  body : Sms
structure Cl where
  init : Nat
  at_ : List Nat
  op : Bi → Option Nat
  rop : Bi → Option Nat
  neg : Option Nat
  eq : Option Nat
  mth : Nat → Option Nat
/-- what a clause tells: a text, a field of the exception, a field's repr -/
inductive Hi where
  | str (s : List Nat) | fld (f : Nat) | rep (f : Nat)
/-- a def that calls what it got: the word ahead of what comes of it, the clauses -/
structure Co where
  tag : List Nat
  hs : List (Nat × List Hi)
/-- the callees' meaning, the classes, the constants; the complaint defs, the exceptions' fields and bases, repr -/
structure Ga where
  call : Nat → List D → Sto → R D
  cls : Nat → Option Cl
  con : Nat → Option D
  fuel : Nat
  co : Nat → Option Co := fun _ => none
  xat : Nat → Option (List Nat) := fun _ => none
  xsub : Nat → Nat → Bool := fun _ _ => false
  rpr : D → Option (List Nat) := fun _ => none
  lam : Nat → Env → Sto → R D := fun _ _ _ => .bad

section
variable (G : Ga)
def opc (f : Option Nat) (l : List D) (S : Sto) : R D := match f with
  | some f => (G.call f l S).nox
  | none => .bad
def binop (o : Bi) (x y : D) (S : Sto) : R D := match x, y with
  | .ins c fs, .ins d gs => opc G (((G.cls d).bind fun k => k.op o).bind fun _ => (G.cls c).bind fun k => k.op o) [.ins c fs, .ins d gs] S
  | .ins c fs, .int j => opc G ((G.cls c).bind fun k => k.op o) [.ins c fs, .int j] S
  | .int i, .ins d gs => opc G ((G.cls d).bind fun k => k.rop o) [.ins d gs, .int i] S
  | x, y => (match binP o x y with
    | some d => .ok d S
    | none => .bad)
def negD (x : D) (S : Sto) : R D := match x with
  | .int i => .ok (.int (-i)) S
  | .ins c fs => opc G ((G.cls c).bind fun k => k.neg) [.ins c fs] S
  | _ => .bad
def cmpD (o : Cm) (x y : D) (S : Sto) : R Bool := match cmpP o x y with
  | some b => .ok b S
  | none => .bad
/-- == of instances of one class by its own def, within tuples and lists too; nothing but yes is told -/
def noDr : Nat → D → Bool
  | 0, _ => false
  | n + 1, d => match d with
    | .dr _ => false
    | .fn _ => false
    | .lst l => l.all (noDr n)
    | .tup l => l.all (noDr n)
    | .ins _ fs => fs.all (noDr n)
    | _ => true
def eqAll (f : D → D → Bool) : List D → List D → Bool
  | [], [] => true
  | x :: xs, y :: ys => f x y && eqAll f xs ys
  | _, _ => false
def isYes : R D → Bool
  | .ok (.bl b) _ => b
  | _ => false
def eqN : Nat → D → D → Bool
  | 0, _, _ => false
  | n + 1, x, y => match x, y with
    | .ins c fs, .ins d gs => decide (c = d) && noDr 60 (.ins c fs) && noDr 60 (.ins d gs) && (match (G.cls c).bind (·.eq) with
      | some f => isYes (G.call f [.ins c fs, .ins d gs] [])
      | none => false)
    | .tup l, .tup m => eqAll (eqN n) l m
    | .lst l, .lst m => eqAll (eqN n) l m
    | .int i, .int j => i == j
    | .str s, .str t => s == t
    | .bl a, .bl b => a == b
    | .non, .non => true
    | _, _ => false
/-- no leaf -/
def isBox : D → Bool
  | .lst _ => true
  | .tup _ => true
  | .ins _ _ => true
  | _ => false
def cmpG (o : Cm) (x y : D) (S : Sto) : R Bool := match cmpP o x y with
  | some b => .ok b S
  | none => (match o with
    | .eq => if (isBox x && eqN G 4 x y) = true then .ok true S else .bad
    | .ne => (match x, y with
      | .ins _ _, .ins _ _ => if eqN G 4 x y = true then .ok false S else .bad
      | _, _ => .bad)
    | _ => .bad)
def isInt : D → Option Int
  | .int i => some i
  | _ => none
def isBl : D → Option Bool
  | .bl b => some b
  | _ => none
def items : D → Option (List D)
  | .lst l => some l
  | .tup l => some l
  | _ => none
def asB (d : D) (S : Sto) : R Bool := match d with
  | .bl b => .ok b S
  | _ => .bad
def sumL : List D → D → Sto → R D
  | [], a, S => .ok a S
  | x :: l, a, S => (binop G .add a x S).bind fun a S => sumL l a S
def allB : List D → Option Bool
  | [] => some true
  | .bl b :: l => (allB l).map (b && ·)
  | _ :: _ => none
def anyB : List D → Option Bool
  | [] => some false
  | .bl b :: l => (anyB l).map (b || ·)
  | _ :: _ => none
def compL (f : D → Sto → R (Option D)) : List D → Sto → R (List D)
  | [], S => .ok [] S
  | x :: l, S => (f x S).bind fun r S => (compL f l S).bind fun rs S => match r with
    | some d => .ok (d :: rs) S
    | none => .ok rs S
def tyIs (t : Ty) (d : D) : Bool := match t, d with
  | .int, .int _ => true
  | .int, .bl _ => true
  | .bool, .bl _ => true
  | .str, .str _ => true
  | .list, .lst _ => true
  | .tuple, .tup _ => true
  | .dict, .dr _ => true
  | .cls c, .ins k _ => c == k
  | _, _ => false
def lookK (k : List Nat) : Kv → Option D
  | [] => none
  | (h, d) :: r => if h = k then some d else lookK k r
/-- a value, a class that is known -/
def knD : D → Bool
  | .ins c _ => (G.cls c).isSome
  | .fn _ => false
  | _ => true
def knT : Ty → Bool
  | .cls c => (G.cls c).isSome
  | _ => true
/-- the field f among the values of the fields at_ -/
def lookF (f : Nat) : List Nat → List D → Option D
  | g :: r, d :: ds => if g = f then some d else lookF f r ds
  | _, _ => none
def putK (k : List Nat) (d : D) (kv : Kv) : Kv := if (kv.any fun p => decide (p.1 = k)) = true then kv.map (fun p => if p.1 = k then (p.1, d) else p) else kv ++ [(k, d)]
def setAll : List Nat → List D → Env → Option Env
  | [], [], v => some v
  | i :: is, d :: ds, v => setAll is ds (setN v i (.va d))
  | _, _, _ => none
def bindPt (p : Pt) (d : D) (v : Env) : Option Env := match p with
  | .nm i => some (setN v i (.va d))
  | .tp is => (match d with
    | .tup l => setAll is l v
    | _ => none)
def wipe (v : Env) : List Nat → Env
  | [] => v
  | i :: is => setN (wipe v is) i .un
def insI (x : Int) : List Int → List Int
  | [] => [x]
  | y :: l => if x ≤ y then x :: y :: l else y :: insI x l
def sortI : List Int → List Int
  | [] => []
  | x :: l => insI x (sortI l)
def dd1 (acc : List Int) (x : Int) : List Int := if acc.any (· == x) then acc else acc ++ [x]
/-- each int once, as it is first met -/
def dedup (l : List Int) : List Int := l.foldl dd1 []
def toInts : List D → Option (List Int)
  | [] => some []
  | .int i :: l => (toInts l).map (i :: ·)
  | _ :: _ => none

/-- what the clauses tell of an exception -/
def itemV (fs : List Nat) (ds : List D) : Hi → Option D
  | .str s => some (.str s)
  | .fld f => lookF f fs ds
  | .rep f => (lookF f fs ds).bind fun d => (G.rpr d).map .str
def itemsV (fs : List Nat) (ds : List D) : List Hi → Option (List D)
  | [] => some []
  | h :: hs => (itemV G fs ds h).bind fun d => (itemsV fs ds hs).map (d :: ·)
def tellC (c : Nat) (ds : List D) (S : Sto) : List (Nat × List Hi) → R D
  | [] => .bad
  | (k, hs) :: r => if G.xsub c k = true then (match (G.xat c).bind fun fs => itemsV G fs ds hs with
    | some l => if l.length ≤ 100 then .ok (.tup l) S else .bad
    | none => .bad) else tellC c ds S r
mutual
def ev : Ex → Env → Sto → R D
  | .var i, v, S => (match getN v i with
    | some (.va d) => .ok d S
    | _ => .bad)
  | .int n, _, S => .ok (.int n) S
  | .bl b, _, S => .ok (.bl b) S
  | .non, _, S => .ok .non S
  | .str s, _, S => .ok (.str s) S
  | .con k, _, S => (match G.con k with
    | some d => .ok d S
    | none => .bad)
  | .tup es, v, S => (evs es v S).bind fun l S => if l.length ≤ SZ then .ok (.tup l) S else .bad
  | .lst es, v, S => (evs es v S).bind fun l S => if l.length ≤ SZ then .ok (.lst l) S else .bad
  | .neg a, v, S => (ev a v S).bind fun x S => negD G x S
  | .not a, v, S => (ev a v S).bind fun x S => (asB x S).bind fun b S => .ok (.bl (!b)) S
  | .bin o a b, v, S => (ev a v S).bind fun x S => (ev b v S).bind fun y S => binop G o x y S
  | .cmp o a b, v, S => (ev a v S).bind fun x S => (ev b v S).bind fun y S => (cmpG G o x y S).bind fun r S => .ok (.bl r) S
  | .chn o p a b c, v, S => (ev a v S).bind fun x S => (ev b v S).bind fun y S => (cmpD o x y S).bind fun r S =>
      if r = true then (ev c v S).bind fun z S => (cmpD p y z S).bind fun r S => .ok (.bl r) S else .ok (.bl false) S
  | .isN a, v, S => (ev a v S).bind fun x S => .ok (.bl (match x with | .non => true | _ => false)) S
  | .isNN a, v, S => (ev a v S).bind fun x S => .ok (.bl (match x with | .non => false | _ => true)) S
  | .and es, v, S => (evAnd es v S).bind fun b S => .ok (.bl b) S
  | .or es, v, S => (evOr es v S).bind fun b S => .ok (.bl b) S
  | .ife c a b, v, S => (ev c v S).bind fun x S => (asB x S).bind fun r S => if r = true then ev a v S else ev b v S
  | .idx s i, v, S => (evq s v S).bind fun l S => (ev i v S).bind fun k S => match k with
    | .int j => (match atI l j with
      | some d => .ok d S
      | none => .bad)
    | _ => .bad
  | .slc s lo hi, v, S => (evk s v S).bind fun t S => (evo lo v S).bind fun a S => (evo hi v S).bind fun b S => match t with
    | .lst l => .ok (.lst (cut l a b)) S
    | .tup l => .ok (.tup (cut l a b)) S
    | _ => .bad
  | .rev s, v, S => (evk s v S).bind fun t S => match t with
    | .lst l => .ok (.lst l.reverse) S
    | .tup l => .ok (.tup l.reverse) S
    | _ => .bad
  | .fld a f, v, S => (ev a v S).bind fun x S => match x with
    | .ins c fs => (match (G.cls c).bind fun k => lookF f k.at_ fs with
      | some d => .ok d S
      | none => .bad)
    | _ => .bad
  | .sfl i f, v, S => (match getN v i with
    | some (.sf c fs) => (match (G.cls c).bind fun k => lookF f k.at_ fs with
      | some d => .ok d S
      | none => .bad)
    | _ => .bad)
  | .call f es, v, S => (evs es v S).bind fun l S => G.call f l S
  | .new c es, v, S => (evs es v S).bind fun l S => match G.cls c with
    | some k => (G.call k.init l S).bind fun d S => (match d with
      | .ins c' fs => if c' = c then .ok (.ins c' fs) S else .bad
      | _ => .bad)
    | none => .bad
  | .mth m a es, v, S => (ev a v S).bind fun x S => match x with
    | .ins c fs => (match (G.cls c).bind fun k => k.mth m with
      | some f => (evs es v S).bind fun l S => G.call f (.ins c fs :: l) S
      | none => .bad)
    | _ => .bad
  | .len s, v, S => (evq s v S).bind fun l S => .ok (.int l.length) S
  | .listOf s, v, S => (evq s v S).bind fun l S => .ok (.lst l) S
  | .tupOf s, v, S => (evq s v S).bind fun l S => .ok (.tup l) S
  | .sum s, v, S => (evq s v S).bind fun l S => sumL G l (.int 0) S
  | .all s, v, S => (evl s v S).bind fun l S => match allB l with
    | some b => .ok (.bl b) S
    | none => .bad
  | .sorted s, v, S => (evl s v S).bind fun l S => match toInts l with
    | some ns => .ok (.lst ((sortI ns).map .int)) S
    | none => .bad
  | .lenSet s, v, S => (evl s v S).bind fun l S => match toInts l with
    | some ns => if ns.length ≤ 4000 then .ok (.int (dedup ns).length) S else .bad
    | none => .bad
  | .max2 a b, v, S => (ev a v S).bind fun x S => (ev b v S).bind fun y S => match x, y with
    | .int i, .int j => .ok (.int (if j > i then j else i)) S
    | _, _ => .bad
  | .min2 a b, v, S => (ev a v S).bind fun x S => (ev b v S).bind fun y S => match x, y with
    | .int i, .int j => .ok (.int (if j < i then j else i)) S
    | _, _ => .bad
  | .intOf a, v, S => (ev a v S).bind fun x S => match x with
    | .int i => .ok (.int i) S
    | .bl b => .ok (.int (b2 b)) S
    | _ => .bad
  | .gcd a b, v, S => (ev a v S).bind fun x S => (ev b v S).bind fun y S => match x, y with
    | .int i, .int j => .ok (.int ((Nat.gcd i.natAbs j.natAbs : Nat) : Int)) S
    | _, _ => .bad
  | .isI a ts _, v, S => (ev a v S).bind fun x S => if (knD G x && ts.all (knT G)) = true then .ok (.bl (ts.any fun t => tyIs t x)) S else .bad
  | .lamc g a, v, S => (match G.co g with
    | some C => (match ev a v S with
      | .ok d S => .ok (.tup [.str C.tag, d]) S
      | .ex c ds S => tellC G c ds S C.hs
      | .bad => .bad)
    | none => .bad)
  | .lamv k, _, S => .ok (.fn k) S
  | .actc g e, v, S => (ev e v S).bind fun d S => match d with
    | .fn k => (match G.co g with
      | some C => (match G.lam k v S with
        | .ok d S => .ok (.tup [.str C.tag, d]) S
        | .ex c ds S => tellC G c ds S C.hs
        | .bad => .bad)
      | none => .bad)
    | _ => .bad
  | .maxL s, v, S => (evq s v S).bind fun l S => match toInts l with
    | some (i :: ns) => .ok (.int (ns.foldl (fun a b => if b > a then b else a) i)) S
    | _ => .bad
  | .minL s, v, S => (evq s v S).bind fun l S => match toInts l with
    | some (i :: ns) => .ok (.int (ns.foldl (fun a b => if b < a then b else a) i)) S
    | _ => .bad
  | .anyL s, v, S => (evl s v S).bind fun l S => match anyB l with
    | some b => .ok (.bl b) S
    | none => .bad
  | .lsR1 a, v, S => (ev a v S).bind fun x S => match x with
    | .int j => if -4611686018427387904 ≤ j ∧ j ≤ 16777216 then .ok (.lst (upto j.toNat 0)) S else .bad
    | _ => .bad
  | .lsR2 a b, v, S => (ev a v S).bind fun x S => (ev b v S).bind fun y S => match x, y with
    | .int i, .int j => if 0 ≤ i ∧ i ≤ 16777216 ∧ -4611686018427387904 ≤ j ∧ j ≤ 16777216 then .ok (.lst (upto (j - i).toNat i)) S else .bad
    | _, _ => .bad
  | .cat a b, v, S => (ev a v S).bind fun x S => (ev b v S).bind fun y S => match x, y with
    | .lst l, .lst m => if l.length + m.length ≤ SZ then .ok (.lst (l ++ m)) S else .bad
    | _, _ => .bad
  | .reps a b, v, S => (ev a v S).bind fun x S => (ev b v S).bind fun y S => match x, y with
    | .lst l, .int k => if k < 9223372036854775808 ∧ -9223372036854775808 ≤ k ∧ l.length * k.toNat ≤ SZ then .ok (.lst (rep l k.toNat)) S else .bad
    | _, _ => .bad
  | .abs a, v, S => (ev a v S).bind fun x S => match x with
    | .int i => .ok (.int (if i < 0 then -i else i)) S
    | _ => .bad
  | .repr a, v, S => (ev a v S).bind fun x S => (match G.rpr x with
    | some s => .ok (.str s) S
    | none => .bad)
  | .dget a k, v, S => (ev a v S).bind fun x S => match x with
    | .dr n => (match (getN S n).bind (lookK k) with
      | some d => .ok d S
      | none => .bad)
    | _ => .bad
  | .disp ks es, v, S => (evs es v S).bind fun l S => if ks.length = l.length ∧ ks.Nodup ∧ ks.length ≤ 15 then .ok (.dr S.length) (S ++ [ks.zip l]) else .bad
  | .comp e own p it c, v, S => (evt it v S).bind fun l S => if l.length < SZ then
      (compL (fun x S => match bindPt p x (wipe v own) with
        | some w => (evc c w S).nox.bind fun r S => if r = true then (ev e w S).nox.bind fun d S => .ok (some d) S else .ok none S
        | none => .bad) l S).bind fun r S => .ok (.lst r) S else .bad
/-- the items of an operand -/
def evq : Sq → Env → Sto → R (List D)
  | .own i, v, S => (match getN v i with
    | some (.ol l) => .ok l S
    | _ => .bad)
  | .ex e, v, S => (ev e v S).bind fun x S => match x with
    | .lst l => .ok l S
    | .tup l => .ok l S
    | _ => .bad
/-- the items of a list -/
def evl : Sq → Env → Sto → R (List D)
  | .own i, v, S => (match getN v i with
    | some (.ol l) => .ok l S
    | _ => .bad)
  | .ex e, v, S => (ev e v S).bind fun x S => match x with
    | .lst l => .ok l S
    | _ => .bad
/-- the operand as a value (its kind matters) -/
def evk : Sq → Env → Sto → R D
  | .own i, v, S => (match getN v i with
    | some (.ol l) => .ok (.lst l) S
    | _ => .bad)
  | .ex e, v, S => ev e v S
def evs : Exs → Env → Sto → R (List D)
  | .nil, _, S => .ok [] S
  | .cons e es, v, S => (ev e v S).bind fun x S => (evs es v S).bind fun l S => .ok (x :: l) S
def evAnd : Exs → Env → Sto → R Bool
  | .nil, _, S => .ok true S
  | .cons e es, v, S => (ev e v S).bind fun x S => (asB x S).bind fun b S => if b = true then evAnd es v S else .ok false S
def evOr : Exs → Env → Sto → R Bool
  | .nil, _, S => .ok false S
  | .cons e es, v, S => (ev e v S).bind fun x S => (asB x S).bind fun b S => if b = true then .ok true S else evOr es v S
/-- a part of a slice -/
def evo : Exo → Env → Sto → R (Option Int)
  | .no, _, S => .ok none S
  | .yes e, v, S => (ev e v S).bind fun x S => match x with
    | .int i => .ok (some i) S
    | _ => .bad
/-- a comprehension's test -/
def evc : Exo → Env → Sto → R Bool
  | .no, _, S => .ok true S
  | .yes e, v, S => (ev e v S).bind fun x S => asB x S
/-- what is walked -/
def evt : Wk → Env → Sto → R (List D)
  | .seq s, v, S => evq s v S
  | .rng1 a, v, S => (ev a v S).bind fun x S => match x with
    | .int j => if -4611686018427387904 ≤ j ∧ j < 4611686018427387904 then .ok (upto j.toNat 0) S else .bad
    | _ => .bad
  | .rng2 a b, v, S => (ev a v S).bind fun x S => (ev b v S).bind fun y S => match x, y with
    | .int i, .int j => if (-4611686018427387904 ≤ i ∧ i < 4611686018427387904) ∧ -4611686018427387904 ≤ j ∧ j < 4611686018427387904 then .ok (upto (j - i).toNat i) S else .bad
    | _, _ => .bad
  | .enum s, v, S => (evl s v S).bind fun l S => .ok (numb 0 l) S
  | .zip s t, v, S => (evq s v S).bind fun l S => (evq t v S).bind fun m S => .ok (zipD l m) S
end

/-! ### statements -/
inductive Fl where
  | nx (v : Env) | rt (d : D) | bk (v : Env) | ct (v : Env)
def forL (f : D → Env → Sto → R Fl) : List D → Env → Sto → R Fl
  | [], v, S => .ok (.nx v) S
  | x :: l, v, S => (f x v S).bind fun r S => match r with
    | .nx v => forL f l v S
    | .ct v => forL f l v S
    | .bk v => .ok (.nx v) S
    | .rt d => .ok (.rt d) S
def whlL (c : Env → Sto → R Bool) (f : Env → Sto → R Fl) : Nat → Env → Sto → R Fl
  | 0, _, _ => .bad
  | n + 1, v, S => (c v S).bind fun b S => if b = true then (f v S).bind fun r S => match r with
    | .nx v => whlL c f n v S
    | .ct v => whlL c f n v S
    | .bk v => .ok (.nx v) S
    | .rt d => .ok (.rt d) S
    else .ok (.nx v) S
def isFresh : Ex → Bool
  | .lst _ => true
  | .listOf _ => true
  | .sorted _ => true
  | .comp .. => true
  | .cat .. => true
  | .lsR1 _ => true
  | .lsR2 .. => true
  | .reps .. => true
  | _ => false
def slotOf (o : Bool) (e : Ex) (d : D) : Option Sl := match o with
  | false => some (.va d)
  | true => if isFresh e then (match d with
    | .lst l => some (.ol l)
    | _ => none) else none

mutual
def xs1 : Sm → Env → Sto → R Fl
  | .asg i e, v, S => (ev G e v S).bind fun d S => .ok (.nx (setN v i (.va d))) S
  | .own i e, v, S => (ev G e v S).bind fun d S => match slotOf true e d with
    | some s => .ok (.nx (setN v i s)) S
    | none => .bad
  | .par3 i a j b l c, v, S => (ev G a v S).bind fun x S => (ev G b v S).bind fun y S => (ev G c v S).bind fun z S => .ok (.nx (setN (setN (setN v i (.va x)) j (.va y)) l (.va z))) S
  | .asgT p e, v, S => (ev G e v S).bind fun d S => match bindPt (.tp p) d v with
    | some w => .ok (.nx w) S
    | none => .bad
  | .par i oi a j oj b, v, S => (ev G a v S).bind fun x S => (ev G b v S).bind fun y S => match slotOf oi a x, slotOf oj b y with
    | some s, some t => .ok (.nx (setN (setN v i s) j t)) S
    | _, _ => .bad
  | .exp e, v, S => (ev G e v S).bind fun _ S => .ok (.nx v) S
  | .app i e, v, S => (match getN v i with
    | some (.ol l) => (ev G e v S).bind fun d S => if l.length < SZ then .ok (.nx (setN v i (.ol (l ++ [d])))) S else .bad
    | _ => .bad)
  | .appPop i j e, v, S => (match getN v i, getN v j with
    | some (.ol l), some (.ol m) => (ev G e v S).bind fun k S => (match k with
      | .int k => (match ixN m.length k with
        | some n => (match getN m n with
          | some d => if i ≠ j ∧ l.length < SZ ∧ k < 9223372036854775808 ∧ -9223372036854775808 ≤ k then .ok (.nx (setN (setN v j (.ol (m.eraseIdx n))) i (.ol (l ++ [d])))) S else .bad
          | none => .bad)
        | none => .bad)
      | _ => .bad)
    | _, _ => .bad)
  | .setI i k e, v, S => (match getN v i with
    | some (.ol l) => (ev G e v S).bind fun d S => (ev G k v S).bind fun k S => (match k with
      | .int k => (match ixN l.length k with
        | some n => .ok (.nx (setN v i (.ol (setN l n d)))) S
        | none => .bad)
      | _ => .bad)
    | _ => .bad)
  | .dset i k e, v, S => (match getN v i with
    | some (.va (.dr n)) => (ev G e v S).bind fun d S => (match getN S n with
      | some kv => if kv.length < SZ then .ok (.nx v) (setN S n (putK k d kv)) else .bad
      | none => .bad)
    | _ => .bad)
  | .sfl i f e, v, S => (match getN v i with
    | some (.sf c fs) => (ev G e v S).bind fun d S => (match (G.cls c).bind fun k => getN k.at_ fs.length with
      | some g => if g = f ∧ fs.length < 900 then .ok (.nx (setN v i (.sf c (fs ++ [d])))) S else .bad
      | none => .bad)
    | _ => .bad)
  | .frz i, v, S => (match getN v i with
    | some (.ol l) => .ok (.nx (setN v i (.va (.lst l)))) S
    | _ => .bad)
  | .iff c a b, v, S => (ev G c v S).bind fun x S => (asB x S).bind fun r S => if r = true then xss a v S else xss b v S
  | .whl c b, v, S => whlL (fun v S => (ev G c v S).bind fun x S => asB x S) (fun v S => xss b v S) G.fuel v S
  | .for_ p it b, v, S => (evt G it v S).bind fun l S => forL (fun x v S => match bindPt p x v with
    | some w => xss b w S
    | none => .bad) l v S
  | .ret e, v, S => (ev G e v S).bind fun d S => .ok (.rt d) S
  | .retN, _, S => .ok (.rt .non) S
  | .pass, v, S => .ok (.nx v) S
  | .brk, v, S => .ok (.bk v) S
  | .cnt, v, S => .ok (.ct v) S
  | .never, _, _ => .bad
  | .raise c es, v, S => (evs G es v S).bind fun l S => (match G.xat c with
    | some fs => if l.length = fs.length then .ex c l S else .bad
    | none => .bad)
def xss : Sms → Env → Sto → R Fl
  | .nil, v, S => .ok (.nx v) S
  | .cons s ss, v, S => (xs1 s v S).bind fun r S => match r with
    | .nx v => xss ss v S
    | r => .ok r S
end
end
end Mi

/-! ### calls -/
namespace Mi
/-- a def of the program: its parameters' number, its slots' number, the values of its defaults, its body; ini: the class whose __init__ it is -/
structure Fd where
  np : Nat
  ns : Nat
  dfl : List D
  ini : Option Nat
  body : Sms
  lams : List Ex := []
structure Pg where
  fns : Nat → Option Fd
  cls : Nat → Option Cl
  con : Nat → Option D
  co : Nat → Option Co := fun _ => none
  xat : Nat → Option (List Nat) := fun _ => none
  xsub : Nat → Nat → Bool := fun _ _ => false
  rpr : D → Option (List Nat) := fun _ => none
def padU : Nat → Env → Env
  | 0, v => v
  | n + 1, v => padU n (v ++ [.un])
/-- the arguments, the defaults that fill up -/
def filled (f : Fd) (ds : List D) : Option (List D) :=
  let k := f.np - ds.length
  if ds.length ≤ f.np ∧ k ≤ f.dfl.length then some (ds ++ f.dfl.drop (f.dfl.length - k)) else none
/-- the readings of the def's own lambdas -/
def lamsOf (G : Ga) (l : List Ex) : Nat → Env → Sto → R D := fun k v S => match l[k]? with
  | some a => ev G a v S
  | none => .bad
/-- what a def with lambdas of its own runs with -/
def withL (G : Ga) : List Ex → Ga
  | [] => G
  | a :: l => { G with lam := lamsOf G (a :: l) }
def runF (G0 : Ga) (f : Fd) (ds : List D) (S : Sto) : R D := let G := withL G0 f.lams; match f.ini with
  | none => (match filled f ds with
    | some es => (xss G f.body (padU (f.ns - es.length) (es.map .va)) S).bind fun r S => (match r with
      | .rt d => .ok d S
      | .nx _ => .ok .non S
      | _ => .bad)
    | none => .bad)
  | some c => (match filled f (.non :: ds) with
    | some (_ :: es) => (match G.cls c with
      | some k => (xss G f.body (padU (f.ns - (es.length + 1)) (.sf c [] :: es.map .va)) S).bind fun r S => (match r with
        | .nx (.sf c' fs :: _) => if c' = c ∧ fs.length = k.at_.length then .ok (.ins c fs) S else .bad
        | _ => .bad)
      | none => .bad)
    | _ => .bad)
def callN (P : Pg) (fuel : Nat) : Nat → Nat → List D → Sto → R D
  | 0, _, _, _ => .bad
  | n + 1, i, ds, S => (match P.fns i with
    | some f => runF { call := callN P fuel n, cls := P.cls, con := P.con, fuel := fuel, co := P.co, xat := P.xat, xsub := P.xsub, rpr := P.rpr } f ds S
    | none => .bad)
def gaOf (P : Pg) (fuel n : Nat) : Ga := { call := callN P fuel n, cls := P.cls, con := P.con, fuel := fuel, co := P.co, xat := P.xat, xsub := P.xsub, rpr := P.rpr }
end Mi

set_option Elab.async false
set_option linter.all false
set_option maxRecDepth 100000
set_option maxHeartbeats 4000000
/-! Mi, part 2: how values lie in the abstract heap. -/
namespace Mi
open PySem PySem.Spec PyProof.Rows L2

/-- a text's codes as the model's text -/
def toS (s : List Nat) : Str := ⟨s.toArray⟩
/-- the classes' addresses, the names of their fields -/
structure Ci where
  K : PySem.W.Frag
  ca : Nat → Addr
  cn : Nat → List Str
  xa : Nat → Addr
  xn : Nat → List Str
  tb : List (Addr × Str)
  cl : List (Str × Addr) := []
  lg : Nat → Expr → Scope → Prop := fun _ _ _ => False
  lq : Str := ""
/-- what a frame that makes lambdas adds: its cells, its lambdas' texts, their name -/
structure Fc where
  cl : List (Str × Addr) := []
  lg : Nat → Expr → Scope → Prop := fun _ _ _ => False
  lq : Str := ""
/-- the same, seen from such a frame -/
def Ci.at_ (Z : Ci) (c : Fc) : Ci := { Z with cl := c.cl, lg := c.lg, lq := c.lq }
/-- a lambda at a, its code object at c -/
def LamO (Z : Ci) (a c : Addr) (body : Expr) (scope : Scope) : HO := .ext fun h => ∃ pm ctv, h.get? a = some (PySem.W.kla_obj "<lambda>" Z.lq ⟨[], [], none, [], [], none, []⟩ body scope (cloFrom Z.cl scope.names []) pm c ctv)

section
variable (Z : Ci)
mutual
/-- the value v is worth d: F what stands still, ρ the store's dicts -/
inductive Rep (F : Hp) (ρ : List Addr) : D → V → Prop where
  | non : Rep F ρ .non .non
  | bl {b : Bool} : Rep F ρ (.bl b) (.bl b)
  | int {i : Int} : Rep F ρ (.int i) (.int i)
  | str {s : List Nat} : Rep F ρ (.str s) (.str (toS s))
  | lst {a : Addr} {vs : List V} {l : List D} (h : Rd F a (.lst vs)) (r : Reps F ρ l vs) : Rep F ρ (.lst l) (.ref a)
  | tup {a : Addr} {vs : List V} {l : List D} (h : SqT Z.K F a vs) (r : Reps F ρ l vs) : Rep F ρ (.tup l) (.ref a)
  | ins {a dx : Addr} {c : Nat} {vs : List V} {fs : List D} (h : F a = some (.ins (Z.ca c) dx ((Z.cn c).zip vs))) (hl : vs.length = (Z.cn c).length) (r : Reps F ρ fs vs) : Rep F ρ (.ins c fs) (.ref a)
  | dr {a : Addr} {n : Nat} (h : getN ρ n = some a) : Rep F ρ (.dr n) (.ref a)
  | fn {a c : Addr} {k : Nat} {body : Expr} {scope : Scope} (g : Z.lg k body scope) (h : F a = some (LamO Z a c body scope)) (hc : F c = some (LamX.CodeO c Z.lq)) : Rep F ρ (.fn k) (.ref a)
inductive Reps (F : Hp) (ρ : List Addr) : List D → List V → Prop where
  | nil : Reps F ρ [] []
  | cons {d : D} {v : V} {l : List D} {vs : List V} (h : Rep F ρ d v) (t : Reps F ρ l vs) : Reps F ρ (d :: l) (v :: vs)
end
end

theorem seqT {K : PySem.W.Frag} {F F' : Hp} {a : Addr} {xs : List V} (e : Same F F') (h : SqT K F a xs) : SqT K F' a xs := by
  rcases h with (h | ⟨o, h⟩) | h
  · exact .inl (.inl (e _ _ h))
  · exact .inl (.inr ⟨o, e _ _ h⟩)
  · exact .inr h
theorem rdM {F F' : Hp} {a : Addr} {u : HO} (e : Same F F') (h : Rd F a u) : Rd F' a u := h.imp (e _ _) fun ⟨o, q⟩ => ⟨o, e _ _ q⟩
theorem getN_app {α : Type} : ∀ {l m : List α} {n : Nat} {a : α}, getN l n = some a → getN (l ++ m) n = some a
  | _ :: _, _, 0, _, h => h
  | _ :: l, m, n + 1, _, h => getN_app (l := l) (m := m) (n := n) h
theorem getN_eq {α : Type} : ∀ (l : List α) (n : Nat), getN l n = l[n]?
  | [], n => by simp [getN]
  | _ :: _, 0 => rfl
  | x :: l, n + 1 => by rw [List.getElem?_cons_succ]; exact getN_eq l n
theorem setN_eq {α : Type} : ∀ (l : List α) (n : Nat) (a : α), setN l n a = l.set n a
  | [], n, a => by simp [setN]
  | _ :: _, 0, _ => rfl
  | x :: l, n + 1, a => by simp [setN, setN_eq l n a]

section
variable {Z : Ci} {F F' : Hp} {ρ m : List Addr}
mutual
theorem Rep.mono (e : Same F F') {d : D} {v : V} (h : Rep Z F ρ d v) : Rep Z F' (ρ ++ m) d v := match h with
  | .non => .non
  | .bl => .bl
  | .int => .int
  | .str => .str
  | .lst h r => .lst (rdM e h) (r.mono e)
  | .tup h r => .tup (seqT e h) (r.mono e)
  | .ins h hl r => .ins (e _ _ h) hl (r.mono e)
  | .dr h => .dr (getN_app h)
  | .fn g h hc => .fn g (e _ _ h) (e _ _ hc)
theorem Reps.mono (e : Same F F') {l : List D} {vs : List V} (h : Reps Z F ρ l vs) : Reps Z F' (ρ ++ m) l vs := match h with
  | .nil => .nil
  | .cons h t => .cons (h.mono e) (t.mono e)
end
theorem Reps.len {l : List D} {vs : List V} (h : Reps Z F ρ l vs) : l.length = vs.length := by
  induction l generalizing vs with
  | nil => cases h; rfl
  | cons d l ih => cases h with | cons _ t => simp [ih t]
theorem Reps.get {l : List D} {vs : List V} (h : Reps Z F ρ l vs) {n : Nat} {d : D} (e : l[n]? = some d) : ∃ v, vs[n]? = some v ∧ Rep Z F ρ d v := by
  induction l generalizing vs n with
  | nil => simp at e
  | cons x l ih =>
    cases h with
    | cons h t =>
      cases n with
      | zero => simp at e; subst e; exact ⟨_, rfl, h⟩
      | succ n => simp at e; simpa using ih t e
theorem Reps.app {l l' : List D} {vs vs' : List V} (h : Reps Z F ρ l vs) (h' : Reps Z F ρ l' vs') : Reps Z F ρ (l ++ l') (vs ++ vs') := by
  induction l generalizing vs with
  | nil => cases h; exact h'
  | cons x l ih => cases h with | cons h t => exact .cons h (ih t)
theorem Reps.one {d : D} {v : V} (h : Rep Z F ρ d v) : Reps Z F ρ [d] [v] := .cons h .nil
theorem Reps.drop {l : List D} {vs : List V} (h : Reps Z F ρ l vs) (n : Nat) : Reps Z F ρ (l.drop n) (vs.drop n) := by
  induction n generalizing l vs with
  | zero => exact h
  | succ n ih => cases h with
    | nil => exact .nil
    | cons _ t => exact ih t
theorem Reps.take {l : List D} {vs : List V} (h : Reps Z F ρ l vs) (n : Nat) : Reps Z F ρ (l.take n) (vs.take n) := by
  induction n generalizing l vs with
  | zero => exact .nil
  | succ n ih => cases h with
    | nil => exact .nil
    | cons h t => exact .cons h (ih t)
theorem Reps.set {l : List D} {vs : List V} (h : Reps Z F ρ l vs) (n : Nat) {d : D} {v : V} (r : Rep Z F ρ d v) : Reps Z F ρ (l.set n d) (vs.set n v) := by
  induction n generalizing l vs with
  | zero => cases h with
    | nil => exact .nil
    | cons _ t => exact .cons r t
  | succ n ih => cases h with
    | nil => exact .nil
    | cons h t => exact .cons h (ih t)
theorem Reps.eraseIdx {l : List D} {vs : List V} (h : Reps Z F ρ l vs) (n : Nat) : Reps Z F ρ (l.eraseIdx n) (vs.eraseIdx n) := by
  induction n generalizing l vs with
  | zero => cases h with
    | nil => exact .nil
    | cons _ t => exact t
  | succ n ih => cases h with
    | nil => exact .nil
    | cons h t => exact .cons h (ih t)
theorem Reps.reverse {l : List D} {vs : List V} (h : Reps Z F ρ l vs) : Reps Z F ρ l.reverse vs.reverse := by
  induction l generalizing vs with
  | nil => cases h; exact .nil
  | cons x l ih => cases h with
    | cons h t => rw [List.reverse_cons, List.reverse_cons]; exact (ih t).app (.one h)
end

/-! ### tables of code objects -/
/-- the table at P: each code object that it tells bears the name q and stands still -/
def TabF (F H : Hp) (P : Addr) (q : Str) : Prop := ∃ ps : Array Value, H P = some (.tbl ps) ∧ TriplesOk ps.toList ∧ ∀ (pos : Pos) (cv : Value), codeAmong pos ps.toList = some cv → ∃ c, cv = .ref c ∧ F c = some (LamX.CodeO c q)
def TabsF (T : List (Addr × Str)) (F H : Hp) : Prop := ∀ p ∈ T, TabF F H p.1 p.2
theorem TabsF.tabs {T : List (Addr × Str)} {F H : Hp} (le : Same F H) (t : TabsF T F H) : LamX.Tabs T H := fun p hp => by
  obtain ⟨ps, h1, h2, h3⟩ := t p hp
  refine ⟨ps, h1, h2, fun pos cv hc => ?_⟩
  obtain ⟨c, e1, e2⟩ := h3 pos cv hc
  exact ⟨c, e1, le _ _ e2⟩
theorem tabs_up {T : List (Addr × Str)} {F F' H H' : Hp} (t : TabsF T F H) (e : Same F F') (k : ∀ a ps, H a = some (.tbl ps) → H' a = some (.tbl ps)) : TabsF T F' H' := fun p hp => by
  obtain ⟨ps, h1, h2, h3⟩ := t p hp
  refine ⟨ps, k _ _ h1, h2, fun pos cv hc => ?_⟩
  obtain ⟨c, e1, e2⟩ := h3 pos cv hc
  exact ⟨c, e1, e _ _ e2⟩
theorem tabs_new {T : List (Addr × Str)} {F F' H : Hp} {p : Addr} {o : HO} (t : TabsF T F H) (hp : H p = none) (e : Same F F') : TabsF T F' (upd H p o) := tabs_up t e fun a ps h => by
  rw [upd_ne (ne_of_none h hp)]; exact h
/-- an object that is neither a table nor a code object is written -/
def NoTab (u : HO) : Prop := (∀ ps, u ≠ .tbl ps) ∧ ∀ c q, u ≠ LamX.CodeO c q
theorem noTab_lst {xs : List V} : NoTab (.lst xs) := ⟨fun _ z => (by cases z), fun _ _ z => (by unfold LamX.CodeO at z; cases z)⟩
theorem noTab_ins {a : Addr} {d : Addr} {fs : List (Str × V)} : NoTab (.ins a d fs) := ⟨fun _ z => (by cases z), fun _ _ z => (by unfold LamX.CodeO at z; cases z)⟩
theorem noTab_dK {kvs : List (Key × V)} : NoTab (.dK kvs) := ⟨fun _ z => (by cases z), fun _ _ z => (by unfold LamX.CodeO at z; cases z)⟩
theorem tabs_set {T : List (Addr × Str)} {F F' H : Hp} {p : Addr} {o u : HO} (t : TabsF T F H) (hp : H p = some u) (hu : NoTab u) (e : Same F F') : TabsF T F' (upd H p o) := tabs_up t e fun a ps h => by
  have ne : a ≠ p := fun z => by
    subst z
    rw [hp] at h; cases h
    exact hu.1 ps rfl
  rw [upd_ne ne]; exact h
/-! ### the store, the slots -/
def keysOf (kv : Kv) : List Key := kv.map fun p => (Sum.inr (toS p.1) : Key)
structure StoR (Z : Ci) (F : Hp) (ρ : List Addr) (S : Sto) (H : Hp) : Prop where
  le : Same F H
  len : ρ.length = S.length
  nd : ρ.Nodup
  at_ : ∀ (n : Nat) (kv : Kv) (a : Addr), S[n]? = some kv → ρ[n]? = some a → F a = none ∧ ∃ vs, H a = some (.dK ((keysOf kv).zip vs)) ∧ Reps Z F ρ (kv.map (·.2)) vs
  tab : TabsF Z.tb F H
  ftb : ∀ a ps, F a ≠ some (.tbl ps)
/-- what a slot's own object is -/
def Own (s : Sl) (o : Option V) (a : Addr) : Prop := (match s with
  | .ol _ => True
  | .sf _ _ => True
  | _ => False) ∧ o = some (.ref a)
def SlR (Z : Ci) (F : Hp) (ρ : List Addr) (H : Hp) : Sl → Option V → Prop
  | .un, _ => True
  | .va d, o => ∃ v, o = some v ∧ Rep Z F ρ d v
  | .ol l, o => ∃ a vs, o = some (.ref a) ∧ H a = some (.lst vs) ∧ F a = none ∧ Reps Z F ρ l vs
  | .sf c fs, o => ∃ a dx vs, o = some (.ref a) ∧ H a = some (.ins (Z.ca c) dx ((Z.cn c).zip vs)) ∧ vs.length ≤ (Z.cn c).length ∧ F a = none ∧ Reps Z F ρ fs vs
structure EnvR (Z : Ci) (F : Hp) (ρ : List Addr) (v : Env) (σ : L2.St) (H : Hp) : Prop where
  len : v.length = σ.length
  at_ : ∀ (i : Nat) (s : Sl) (o : Option V), v[i]? = some s → σ[i]? = some o → SlR Z F ρ H s o
  inj : ∀ (i j : Nat) (s t : Sl) (o p : Option V) (a : Addr), v[i]? = some s → σ[i]? = some o → v[j]? = some t → σ[j]? = some p → Own s o a → Own t p a → i = j
  out : ∀ (i : Nat) (s : Sl) (o : Option V) (a : Addr), v[i]? = some s → σ[i]? = some o → Own s o a → a ∉ ρ
/-- what an expression, a call, a statement leaves: all that was tracked but the store's dicts and what O tells stands; what stands still grows by new objects and by what O tells -/
structure Ext (O : Addr → Prop) (F : Hp) (ρ : List Addr) (H F' : Hp) (ρ' : List Addr) (H' : Hp) : Prop where
  le : Same F F'
  keep : ∀ a o, H a = some o → a ∉ ρ → ¬ O a → (∀ ps, o ≠ .tbl ps) → H' a = some o
  dom : ∀ a, H' a = none → H a = none
  new : ∀ a o, F' a = some o → F a = some o ∨ H a = none ∨ O a
  pre : ∃ m, ρ' = ρ ++ m ∧ ∀ a ∈ m, H a = none
abbrev nO : Addr → Prop := fun _ => False

section
variable {Z : Ci} {F F1 F2 : Hp} {ρ ρ1 ρ2 : List Addr} {H H1 H2 : Hp} {v : Env} {σ : L2.St} {S S1 : Sto} {O O1 : Addr → Prop}
theorem Ext.refl : Ext O F ρ H F ρ H := ⟨Same.refl F, fun _ _ h _ _ _ => h, fun _ h => h, fun _ _ h => .inl h, [], by simp, by simp⟩
theorem Ext.transO (a : Ext O F ρ H F1 ρ1 H1) (b : Ext O1 F1 ρ1 H1 F2 ρ2 H2) (ho : ∀ c, O1 c → O c ∨ H c = none) : Ext O F ρ H F2 ρ2 H2 := by
  obtain ⟨m, e, hm⟩ := a.pre
  obtain ⟨n, e', hn⟩ := b.pre
  refine ⟨a.le.trans b.le, fun c o h hc hO ht => b.keep c o (a.keep c o h hc hO ht) ?_ (fun q => ?_) ht, fun c h => a.dom c (b.dom c h), fun c o h => ?_, m ++ n, by rw [e', e, List.append_assoc], fun c hc => ?_⟩
  · rw [e]
    intro q
    rcases List.mem_append.mp q with q | q
    · exact hc q
    · rw [hm c q] at h; cases h
  · rcases ho c q with w | w
    · exact hO w
    · rw [h] at w; cases w
  · rcases b.new c o h with q | q | q
    · exact a.new c o q
    · exact .inr (.inl (a.dom c q))
    · rcases ho c q with w | w
      · exact .inr (.inr w)
      · exact .inr (.inl w)
  · rcases List.mem_append.mp hc with q | q
    · exact hm c q
    · exact a.dom c (hn c q)
theorem Ext.trans (a : Ext O F ρ H F1 ρ1 H1) (b : Ext nO F1 ρ1 H1 F2 ρ2 H2) : Ext O F ρ H F2 ρ2 H2 := a.transO b fun _ q => q.elim
theorem Ext.weak (a : Ext nO F ρ H F1 ρ1 H1) : Ext O F ρ H F1 ρ1 H1 := ⟨a.le, fun c o h hc _ ht => a.keep c o h hc (fun q => q) ht, a.dom, fun c o h => (a.new c o h).elim .inl fun q => q.elim (fun q => .inr (.inl q)) fun q => q.elim, a.pre⟩
theorem Ext.rep (e : Ext O F ρ H F1 ρ1 H1) {d : D} {x : V} (h : Rep Z F ρ d x) : Rep Z F1 ρ1 d x := by
  obtain ⟨m, rfl, _⟩ := e.pre
  exact h.mono e.le
theorem Ext.reps (e : Ext O F ρ H F1 ρ1 H1) {l : List D} {x : List V} (h : Reps Z F ρ l x) : Reps Z F1 ρ1 l x := by
  obtain ⟨m, rfl, _⟩ := e.pre
  exact h.mono e.le
theorem Ext.slot (e : Ext nO F ρ H F1 ρ1 H1) {s : Sl} {o : Option V} (h : SlR Z F ρ H s o) (ho : ∀ a, Own s o a → a ∉ ρ) : SlR Z F1 ρ1 H1 s o := by
  have nf : ∀ {a : Addr} {u : HO}, H a = some u → F a = none → F1 a = none := fun {a u} hh hf => by
    cases q : F1 a with
    | none => rfl
    | some z =>
      rcases e.new a z q with w | w | w
      · rw [hf] at w; cases w
      · rw [hh] at w; cases w
      · exact w.elim
  cases s with
  | un => trivial
  | va d => obtain ⟨x, rfl, r⟩ := h; exact ⟨x, rfl, e.rep r⟩
  | ol l => obtain ⟨a, vs, rfl, hh, hf, r⟩ := h; exact ⟨a, vs, rfl, e.keep _ _ hh (ho a ⟨trivial, rfl⟩) (fun q => q) (fun _ z => by cases z), nf hh hf, e.reps r⟩
  | sf c fs => obtain ⟨a, dx, vs, rfl, hh, hl, hf, r⟩ := h; exact ⟨a, dx, vs, rfl, e.keep _ _ hh (ho a ⟨trivial, rfl⟩) (fun q => q) (fun _ z => by cases z), hl, nf hh hf, e.reps r⟩
theorem SlR.own (h : SlR Z F ρ H s o) {a : Addr} (w : Own s o a) : ∃ u, H a = some u ∧ F a = none := by
  obtain ⟨w1, rfl⟩ := w
  cases s with
  | un => exact w1.elim
  | va d => exact w1.elim
  | ol l => obtain ⟨b, vs, e, hh, hf, r⟩ := h; cases e; exact ⟨_, hh, hf⟩
  | sf c fs => obtain ⟨b, dx, vs, e, hh, hl, hf, r⟩ := h; cases e; exact ⟨_, hh, hf⟩
theorem SlR.noTab (h : SlR Z F ρ H s o) {a : Addr} (w : Own s o a) {u : HO} (e : H a = some u) : NoTab u := by
  obtain ⟨w1, rfl⟩ := w
  cases s with
  | un => exact w1.elim
  | va d => exact w1.elim
  | ol l => obtain ⟨b, vs, e1, hh, hf, r⟩ := h; cases e1; rw [hh] at e; cases e; exact noTab_lst
  | sf c fs => obtain ⟨b, dx, vs, e1, hh, hl, hf, r⟩ := h; cases e1; rw [hh] at e; cases e; exact noTab_ins
theorem EnvR.ext (h : EnvR Z F ρ v σ H) (e : Ext nO F ρ H F1 ρ1 H1) : EnvR Z F1 ρ1 v σ H1 := by
  refine ⟨h.len, fun i s o a b => e.slot (h.at_ i s o a b) fun c w => h.out i s o c a b w, h.inj, fun i s o a hv hs w hm => ?_⟩
  obtain ⟨m, rfl, hn⟩ := e.pre
  rcases List.mem_append.mp hm with q | q
  · exact h.out i s o a hv hs w q
  · obtain ⟨u, hu, _⟩ := (h.at_ i s o hv hs).own w
    rw [hn a q] at hu; cases hu
/-- a new object that will stand still -/
theorem Ext.laid {p : Addr} {o : HO} (hp : H p = none) (le : Same F H) : Ext O F ρ H (upd F p o) ρ (upd H p o) := by
  have fp : F p = none := by
    cases q : F p with
    | none => rfl
    | some u => rw [le p u q] at hp; cases hp
  refine ⟨fun a u h => ?_, fun a u h _ _ _ => ?_, fun a h => ?_, fun a u h => ?_, [], by simp, by simp⟩
  · rw [upd_ne (ne_of_none h fp)]; exact h
  · rw [upd_ne (ne_of_none h hp)]; exact h
  · by_cases q : a = p
    · subst q; rw [upd_same] at h; cases h
    · rw [upd_ne q] at h; exact h
  · by_cases q : a = p
    · subst q; exact .inr (.inl hp)
    · rw [upd_ne q] at h; exact .inl h
/-- a new object, not yet still -/
theorem Ext.made {p : Addr} {o : HO} (hp : H p = none) : Ext O F ρ H F ρ (upd H p o) := by
  refine ⟨Same.refl F, fun a u h _ _ _ => ?_, fun a h => ?_, fun a u h => .inl h, [], by simp, by simp⟩
  · rw [upd_ne (ne_of_none h hp)]; exact h
  · by_cases q : a = p
    · subst q; rw [upd_same] at h; cases h
    · rw [upd_ne q] at h; exact h
theorem StoR.out (h : StoR Z F ρ S H) {n : Nat} {a : Addr} (e : ρ[n]? = some a) : ∃ u, H a = some u := by
  have hl : n < S.length := by rw [← h.len]; exact (List.getElem?_eq_some_iff.mp e).1
  obtain ⟨_, vs, q, _⟩ := h.at_ n S[n] a (by simp [hl]) e
  exact ⟨_, q⟩
theorem ftb_new {F : Hp} {a : Addr} {o : HO} (h : ∀ b ps, F b ≠ some (.tbl ps)) (ho : ∀ ps, o ≠ .tbl ps) : ∀ b ps, upd F a o b ≠ some (.tbl ps) := fun b ps z => by
  by_cases y : b = a
  · subst y; rw [upd_same] at z; exact ho ps (Option.some.inj z)
  · rw [upd_ne y] at z; exact h b ps z
theorem StoR.laid {p : Addr} {o : HO} (hp : H p = none) (h : StoR Z F ρ S H) (ho : ∀ ps, o ≠ .tbl ps := by intro _ z; cases z) : StoR Z (upd F p o) ρ S (upd H p o) := by
  have e : Ext nO F ρ H (upd F p o) ρ (upd H p o) := Ext.laid hp h.le
  refine ⟨fun a u q => ?_, h.len, h.nd, fun n kv a h1 h2 => ?_, tabs_new h.tab hp e.le, fun a ps z => ?_⟩
  · by_cases z : a = p
    · subst z; rw [upd_same] at q ⊢; exact q
    · rw [upd_ne z] at q ⊢; exact h.le a u q
  · obtain ⟨hf, vs, hh, r⟩ := h.at_ n kv a h1 h2
    have z : a ≠ p := ne_of_none hh hp
    exact ⟨by rw [upd_ne z]; exact hf, vs, by rw [upd_ne z]; exact hh, e.reps r⟩
  · by_cases y : a = p
    · subst y; rw [upd_same] at z; exact ho ps (Option.some.inj z)
    · rw [upd_ne y] at z; exact h.ftb a ps z
theorem StoR.made {p : Addr} {o : HO} (hp : H p = none) (h : StoR Z F ρ S H) : StoR Z F ρ S (upd H p o) := by
  refine ⟨fun a u q => ?_, h.len, h.nd, fun n kv a h1 h2 => ?_, tabs_new h.tab hp (Same.refl F), h.ftb⟩
  · rw [upd_ne (ne_of_none (h.le a u q) hp)]; exact h.le a u q
  · obtain ⟨hf, vs, hh, r⟩ := h.at_ n kv a h1 h2
    exact ⟨hf, vs, by rw [upd_ne (ne_of_none hh hp)]; exact hh, r⟩
end
end Mi

set_option Elab.async false
set_option linter.all false
set_option maxRecDepth 100000
set_option maxHeartbeats 4000000
/-! Mi, part 3: readings by the interpreter. -/
namespace Mi
open PySem PySem.Spec PyProof.Rows L2

/-- an exception's own: its class, its dict -/
def XRep (Z : Ci) (c : Nat) (fs : List D) (cls : Value) (dx : Option Addr) (F : Hp) (ρ : List Addr) (H : Hp) : Prop :=
  cls = .ref (Z.xa c) ∧ ∃ dd vs, dx = some dd ∧ H dd = some (.xd ((Z.xn c).zip vs)) ∧ vs.length = (Z.xn c).length ∧ Reps Z F ρ fs vs
/-- a result's meaning: from the heap at hand on -/
def PostA {α β : Type} (Z : Ci) (W : WX) (r : R α) (P : α → β → Hp → List Addr → Hp → Prop) (F : Hp) (ρ : List Addr) (σ : L2.St) (H : Hp) (Q : β → Hp → Prop) : Prop := match r with
  | .ok a S => ∀ b F' ρ' H', Ext nO F ρ H F' ρ' H' → StoR Z F' ρ' S H' → P a b F' ρ' H' → Q b H'
  | .ex c fs S => ∀ cls dx F' ρ' H', Ext nO F ρ H F' ρ' H' → StoR Z F' ρ' S H' → XRep Z c fs cls dx F' ρ' H' → W cls dx σ H'
  | .bad => False
def pV (Z : Ci) : D → V → Hp → List Addr → Hp → Prop := fun d x F ρ _ => Rep Z F ρ d x
def pVs (Z : Ci) : List D → List V → Hp → List Addr → Hp → Prop := fun d x F ρ _ => Reps Z F ρ d x
def pEq {α : Type} : α → α → Hp → List Addr → Hp → Prop := fun a b _ _ _ => a = b
/-- a list or a tuple that can be read, whatever keeps it -/
def pQ (Z : Ci) : List D → V → Hp → List Addr → Hp → Prop := fun l x F ρ H => ∃ a vs, x = .ref a ∧ (Rd H a (.lst vs) ∨ SqT Z.K F a vs) ∧ Reps Z F ρ l vs
/-- a list that can be read -/
def pL (Z : Ci) : List D → V → Hp → List Addr → Hp → Prop := fun l x F ρ H => ∃ a vs, x = .ref a ∧ Rd H a (.lst vs) ∧ Reps Z F ρ l vs
/-- a value, or a list of the def's own -/
def pK (Z : Ci) : D → V → Hp → List Addr → Hp → Prop := fun d x F ρ H => Rep Z F ρ d x ∨ ∃ l a vs, d = .lst l ∧ x = .ref a ∧ Rd H a (.lst vs) ∧ Reps Z F ρ l vs

section
variable {Z : Ci} {W : WX} {α β γ δ : Type} {F F1 : Hp} {ρ ρ1 : List Addr} {H H1 : Hp} {σ : L2.St} {S : Sto} {v : Env}
theorem PostA.ext {r : R α} {P : α → β → Hp → List Addr → Hp → Prop} {Q : β → Hp → Prop} (h : PostA Z W r P F ρ σ H Q) (e : Ext nO F ρ H F1 ρ1 H1) : PostA Z W r P F1 ρ1 σ H1 Q := by
  cases r with
  | ok a S => exact fun b F' ρ' H' e' s p => h b F' ρ' H' (e.trans e') s p
  | ex c fs S => exact fun cls dx F' ρ' H' e' s p => h cls dx F' ρ' H' (e.trans e') s p
  | bad => exact h
theorem PostA.bind {r : R α} {k : α → Sto → R γ} {P : α → β → Hp → List Addr → Hp → Prop} {P2 : γ → δ → Hp → List Addr → Hp → Prop} {Q : δ → Hp → Prop}
    (h : PostA Z W (r.bind k) P2 F ρ σ H Q) : PostA Z W r P F ρ σ H fun b H1 => ∃ a F1 ρ1 S1, Ext nO F ρ H F1 ρ1 H1 ∧ StoR Z F1 ρ1 S1 H1 ∧ P a b F1 ρ1 H1 ∧ PostA Z W (k a S1) P2 F1 ρ1 σ H1 Q := by
  cases r with
  | ok a S => exact fun b F' ρ' H' e s p => ⟨a, F', ρ', S, e, s, p, PostA.ext (show PostA Z W (k a S) P2 F ρ σ H Q from h) e⟩
  | ex c fs S => exact h
  | bad => exact h
/-- an end that is known -/
theorem PostA.done {a : α} {b : β} {P : α → β → Hp → List Addr → Hp → Prop} {Q : β → Hp → Prop} (h : PostA Z W (.ok a S) P F ρ σ H Q) (s : StoR Z F ρ S H) (p : P a b F ρ H) : Q b H := h b F ρ H .refl s p
theorem PostA.mono {r : R α} {P : α → β → Hp → List Addr → Hp → Prop} {P2 : α → δ → Hp → List Addr → Hp → Prop} {Q : β → Hp → Prop} {Q2 : δ → Hp → Prop} (h : PostA Z W r P F ρ σ H Q)
    (f : ∀ a d F' ρ' H', Ext nO F ρ H F' ρ' H' → P2 a d F' ρ' H' → (∀ b, P a b F' ρ' H' → Q b H') → Q2 d H') : PostA Z W r P2 F ρ σ H Q2 := by
  cases r with
  | ok a S => exact fun d F' ρ' H' e s p => f a d F' ρ' H' e p fun b q => h b F' ρ' H' e s q
  | ex c fs S => exact h
  | bad => exact h

/-- a state and what comes of it -/
def tG {α β : Type} (Z : Ci) (W : WX) (f : Env → Sto → R α) (P : α → β → Hp → List Addr → Hp → Prop) : L2.St → Hp → (β → Hp → Prop) → Prop := fun σ H Q =>
  ∃ F ρ v S, EnvR Z F ρ v σ H ∧ StoR Z F ρ S H ∧ PostA Z W (f v S) P F ρ σ H Q
abbrev tE (Z : Ci) (W : WX) (G : Ga) (e : Ex) : TE := tG Z W (ev G e) (pV Z)
abbrev tEs (Z : Ci) (W : WX) (G : Ga) (es : Exs) : TA := tG Z W (evs G es) (pVs Z)
abbrev tQ (Z : Ci) (W : WX) (G : Ga) (s : Sq) : TE := tG Z W (evq G s) (pQ Z)
/-- as a test -/
abbrev tT (Z : Ci) (W : WX) (G : Ga) (e : Ex) : TT := tG Z W (fun v S => (ev G e v S).bind asB) pEq
abbrev tB2 (Z : Ci) (W : WX) (f : Env → Sto → R Bool) : TT := tG Z W f pEq

theorem EnvR.get {i : Nat} {s : Sl} (h : EnvR Z F ρ v σ H) (e : getN v i = some s) : ∃ o, σ[i]? = some o ∧ SlR Z F ρ H s o := by
  rw [getN_eq] at e
  have hl : i < v.length := (List.getElem?_eq_some_iff.mp e).1
  rw [h.len] at hl
  exact ⟨σ[i], by simp [hl], h.at_ i s σ[i] e (by simp [hl])⟩
theorem _root_.L2.PE.imp {X : Cx} {e : Expr} {t t' : TE} (h : PE X e t) (f : ∀ σ H Q, t' σ H Q → t σ H Q) : PE X e t' := ⟨fun pins s σ H Q I q => h.run pins s σ H Q I (f σ H Q q)⟩
theorem _root_.L2.PT.imp {X : Cx} {e : Expr} {t t' : TT} (h : PT X e t) (f : ∀ σ H Q, t' σ H Q → t σ H Q) : PT X e t' := ⟨fun pins s σ H Q I q => h.run pins s σ H Q I (f σ H Q q)⟩
theorem _root_.L2.PW.imp {X : Cx} {e : Expr} {t t' : TT} (h : PW X e t) (f : ∀ σ H Q, t' σ H Q → t σ H Q) : PW X e t' := ⟨fun wh pins s σ H Q I q => h.run wh pins s σ H Q I (f σ H Q q)⟩
theorem _root_.L2.PA.imp {X : Cx} {es : List Expr} {t t' : TA} (h : PA X es t) (f : ∀ σ H Q, t' σ H Q → t σ H Q) : PA X es t' := ⟨fun pos pins s σ H Q I q => h.run pos pins s σ H Q I (f σ H Q q)⟩
theorem _root_.L2.PS.imp {X : Cx} {st : Stmt} {t t' : TS} (h : PS X st t) (f : ∀ D σ H, t' D σ H → t D σ H) : PS X st t' := ⟨fun pins s σ H D I q => h.run pins s σ H D I (f D σ H q)⟩
theorem _root_.L2.PSs.imp {X : Cx} {st : List Stmt} {t t' : TS} (h : PSs X st t) (f : ∀ D σ H, t' D σ H → t D σ H) : PSs X st t' := ⟨fun pins s σ H D I q => h.run pins s σ H D I (f D σ H q)⟩
/-- one part after another: its reading, then the rest from the state behind it -/
theorem tG.bind {f : Env → Sto → R α} {k : α → Env → Sto → R γ} {P : α → β → Hp → List Addr → Hp → Prop} {P2 : γ → δ → Hp → List Addr → Hp → Prop} {Q : δ → Hp → Prop}
    (h : tG Z W (fun v S => (f v S).bind fun a S => k a v S) P2 σ H Q) : tG Z W f P σ H fun b H1 => ∃ a F1 ρ1 v1 S1, EnvR Z F1 ρ1 v1 σ H1 ∧ StoR Z F1 ρ1 S1 H1 ∧ P a b F1 ρ1 H1 ∧ PostA Z W (k a v1 S1) P2 F1 ρ1 σ H1 Q := by
  obtain ⟨F, ρ, v, S, he, hs, hp⟩ := h
  exact ⟨F, ρ, v, S, he, hs, (PostA.bind (P := P) hp).mono fun a b F' ρ' H' e p g => by
    obtain ⟨a', F1, ρ1, S1, e1, s1, p1, q⟩ := g b p
    exact ⟨a', F1, ρ1, v, S1, he.ext e1, s1, p1, q⟩⟩
/-- two parts -/
theorem tG.bind2 {α' β' : Type} {f : Env → Sto → R α} {g : Env → Sto → R α'} {k : α → α' → Env → Sto → R γ} {P : α → β → Hp → List Addr → Hp → Prop} {P' : α' → β' → Hp → List Addr → Hp → Prop} {P2 : γ → δ → Hp → List Addr → Hp → Prop} {Q : δ → Hp → Prop}
    (hP : ∀ a b F ρ H F1 ρ1 H1 S, Ext nO F ρ H F1 ρ1 H1 → StoR Z F ρ S H → P a b F ρ H → P a b F1 ρ1 H1)
    (h : tG Z W (fun v S => (f v S).bind fun a S => (g v S).bind fun a' S => k a a' v S) P2 σ H Q) : tG Z W f P σ H fun b H1 => tG Z W g P' σ H1 fun b' H2 => ∃ a a' F2 ρ2 v2 S2, EnvR Z F2 ρ2 v2 σ H2 ∧ StoR Z F2 ρ2 S2 H2 ∧ P a b F2 ρ2 H2 ∧ P' a' b' F2 ρ2 H2 ∧ PostA Z W (k a a' v2 S2) P2 F2 ρ2 σ H2 Q := by
  obtain ⟨F, ρ, v, S, he, hs, hp⟩ := h
  refine ⟨F, ρ, v, S, he, hs, (PostA.bind (P := P) hp).mono fun a b F' ρ' H' e p k1 => ?_⟩
  obtain ⟨a1, F1, ρ1, S1, e1, s1, p1, q⟩ := k1 b p
  refine ⟨F1, ρ1, v, S1, he.ext e1, s1, (PostA.bind (P := P') q).mono fun a' b' F'' ρ'' H'' e2 p2 k2 => ?_⟩
  obtain ⟨a2, F2, ρ2, S2, e3, s2, p3, q2⟩ := k2 b' p2
  exact ⟨a1, a2, F2, ρ2, v, S2, (he.ext e1).ext e3, s2, hP _ _ _ _ _ _ _ _ _ e3 s1 p1, p3, q2⟩
theorem pV.ext {a : D} {b : V} {S : Sto} (e : Ext nO F ρ H F1 ρ1 H1) (_ : StoR Z F ρ S H) (p : pV Z a b F ρ H) : pV Z a b F1 ρ1 H1 := e.rep p
theorem StoR.notin (h : StoR Z F ρ S H) {a : Addr} {u : HO} (e : H a = some u) (hu : ∀ kv, u ≠ .dK kv) : a ∉ ρ := fun q => by
  obtain ⟨n, hn, rfl⟩ := List.mem_iff_getElem.mp q
  have hl : n < S.length := by rw [← h.len]; exact hn
  obtain ⟨_, vs, w, _⟩ := h.at_ n S[n] ρ[n] (by simp [hl]) (by simp [hn])
  rw [w] at e
  exact hu _ (Option.some.inj e).symm
theorem sqL_ext {O : Addr → Prop} {K : PySem.W.Frag} {a : Addr} {xs : List V} (e : Ext O F ρ H F1 ρ1 H1) (s : StoR Z F ρ S H) (no : ¬ O a) (h : SqL K H a xs) : SqL K H1 a xs := by
  rcases h with (h | ⟨o, h⟩) | h
  · exact .inl (.inl (e.keep _ _ h (s.notin h fun _ z => by cases z) no fun _ z => by cases z))
  · exact .inl (.inr ⟨o, e.keep _ _ h (s.notin h fun _ z => by cases z) no fun _ z => by cases z⟩)
  · exact .inr h
theorem rd_ext {O : Addr → Prop} {a : Addr} {xs : List V} (e : Ext O F ρ H F1 ρ1 H1) (s : StoR Z F ρ S H) (no : ¬ O a) (h : Rd H a (.lst xs)) : Rd H1 a (.lst xs) := by
  rcases h with h | ⟨o, h⟩
  · exact .inl (e.keep _ _ h (s.notin h fun _ z => by cases z) no fun _ z => by cases z)
  · exact .inr ⟨o, e.keep _ _ h (s.notin h fun _ z => by cases z) no fun _ z => by cases z⟩
theorem sqT_ext {O : Addr → Prop} {K : PySem.W.Frag} {a : Addr} {xs : List V} (e : Ext O F ρ H F1 ρ1 H1) (s : StoR Z F ρ S H) (no : ¬ O a) (h : SqT K H a xs) : SqT K H1 a xs := by
  rcases h with (h | ⟨o, h⟩) | h
  · exact .inl (.inl (e.keep _ _ h (s.notin h fun _ z => by cases z) no fun _ z => by cases z))
  · exact .inl (.inr ⟨o, e.keep _ _ h (s.notin h fun _ z => by cases z) no fun _ z => by cases z⟩)
  · exact .inr h
theorem pQ.ext {a : List D} {b : V} {S : Sto} (e : Ext nO F ρ H F1 ρ1 H1) (s : StoR Z F ρ S H) (p : pQ Z a b F ρ H) : pQ Z a b F1 ρ1 H1 := by
  obtain ⟨c, vs, rfl, h, r⟩ := p
  exact ⟨c, vs, rfl, h.imp (rd_ext e s fun q => q) (seqT e.le), e.reps r⟩
theorem pVs.ext {a : List D} {b : List V} {S : Sto} (e : Ext nO F ρ H F1 ρ1 H1) (_ : StoR Z F ρ S H) (p : pVs Z a b F ρ H) : pVs Z a b F1 ρ1 H1 := e.reps p
theorem pQ.of {d : D} {l : List D} {x : V} (h : StoR Z F ρ S H) (r : Rep Z F ρ d x) (hd : items d = some l) : pQ Z l x F ρ H := by
  cases r with
  | lst h1 r1 => cases hd; exact ⟨_, _, rfl, .inl (rdM h.le h1), r1⟩
  | tup h1 r1 => cases hd; exact ⟨_, _, rfl, .inr h1, r1⟩
  | _ => cases hd
theorem pL.ext {a : List D} {b : V} {S : Sto} (e : Ext nO F ρ H F1 ρ1 H1) (s : StoR Z F ρ S H) (p : pL Z a b F ρ H) : pL Z a b F1 ρ1 H1 := by
  obtain ⟨c, vs, rfl, h, r⟩ := p
  exact ⟨c, vs, rfl, rd_ext e s (fun q => q) h, e.reps r⟩
theorem pK.ext {a : D} {b : V} {S : Sto} (e : Ext nO F ρ H F1 ρ1 H1) (s : StoR Z F ρ S H) (p : pK Z a b F ρ H) : pK Z a b F1 ρ1 H1 := by
  rcases p with p | ⟨l, c, vs, rfl, rfl, h, r⟩
  · exact .inl (e.rep p)
  · exact .inr ⟨l, c, vs, rfl, rfl, rd_ext e s (fun q => q) h, e.reps r⟩
end
end Mi

set_option Elab.async false
set_option linter.all false
set_option maxRecDepth 100000
set_option maxHeartbeats 4000000
/-! Mi, part 4: expressions. -/
namespace Mi
open PySem PySem.Spec PyProof.Rows L2

theorem sz_line : SZ = sizeLine := by rw [sizeLine_eq]; rfl

section
variable {Z : Ci} {W : WX} {G : Ga} {X : Cx}
/-- a list just made: it is nobody's yet (H₀: the heap ahead of it) -/
def pF (Z : Ci) (H0 : Hp) : D → V → Hp → List Addr → Hp → Prop := fun d x F ρ H => ∃ l a vs, d = .lst l ∧ x = .ref a ∧ H a = some (.lst vs) ∧ F a = none ∧ H0 a = none ∧ Reps Z F ρ l vs
def tF (Z : Ci) (W : WX) (f : Env → Sto → R D) : TE := fun σ H Q => ∃ F ρ v S, EnvR Z F ρ v σ H ∧ StoR Z F ρ S H ∧ PostA Z W (f v S) (pF Z H) F ρ σ H Q
theorem ftb_lst {F : Hp} {a : Addr} {vs : List V} (h : ∀ b ps, F b ≠ some (.tbl ps)) : ∀ b ps, upd F a (.lst vs) b ≠ some (.tbl ps) := fun b ps z => by
  by_cases y : b = a
  · subst y; rw [upd_same] at z; cases z
  · rw [upd_ne y] at z; exact h b ps z
theorem still {F : Hp} {ρ : List Addr} {S : Sto} {H H0 F0 : Hp} {ρ0 : List Addr} {a : Addr} {vs : List V} (s : StoR Z F ρ S H) (h : H a = some (.lst vs)) (f : F a = none) (n : H0 a = none) (e : Ext nO F0 ρ0 H0 F ρ H) :
    Ext nO F0 ρ0 H0 (upd F a (.lst vs)) ρ H ∧ StoR Z (upd F a (.lst vs)) ρ S H := by
  have le : Same F (upd F a (.lst vs)) := fun b o q => by rw [upd_ne (ne_of_none q f)]; exact q
  refine ⟨⟨e.le.trans le, e.keep, e.dom, fun b o q => ?_, e.pre⟩, fun b o q => ?_, s.len, s.nd, fun k kv b h1 h2 => ?_, tabs_up s.tab le (fun _ _ q => q), ftb_lst s.ftb⟩
  · by_cases z : b = a
    · subst z; exact .inr (.inl n)
    · rw [upd_ne z] at q; exact e.new b o q
  · by_cases z : b = a
    · subst z; rw [upd_same] at q; rw [← q]; exact h
    · rw [upd_ne z] at q; exact s.le b o q
  · obtain ⟨hf, us, hh, r⟩ := s.at_ k kv b h1 h2
    have z : b ≠ a := fun z => by subst z; rw [h] at hh; cases hh
    refine ⟨by rw [upd_ne z]; exact hf, us, hh, ?_⟩
    have := Reps.mono (m := []) le r
    rwa [List.append_nil] at this
theorem fresh_still {f : Env → Sto → R D} {σ : L2.St} {H : Hp} {Q : VK} (h : tG Z W f (pV Z) σ H Q) : tF Z W f σ H Q := by
  obtain ⟨F, ρ, v, S, he, hs, hp⟩ := h
  refine ⟨F, ρ, v, S, he, hs, ?_⟩
  cases q : f v S with
  | ok d S1 =>
    rw [q] at hp
    rintro x F' ρ' H' e s ⟨l, a, vs, rfl, rfl, h1, h2, h3, r⟩
    obtain ⟨e', s'⟩ := still s h1 h2 h3 e
    refine hp _ _ _ _ e' s' (.lst (.inl upd_same) ?_)
    have := Reps.mono (m := []) (F' := upd F' a (.lst vs)) (fun b o q => by rw [upd_ne (ne_of_none q h2)]; exact q) r
    rwa [List.append_nil] at this
  | ex c fs S1 => rw [q] at hp; exact hp
  | bad => rw [q] at hp; exact hp.elim

/-! ### names, constants -/
theorem se_var {i : Nat} {x : Str} {pos : Pos} (hN : X.N[i]? = some x) (hv : Vis X.env.scope x) (hd : (x == ("__debug__" : Str)) = false) (hcd : (x == ("__classdict__" : Str)) = false) : PE X (.Name x pos) (tE Z W G (.var i)) := by
  refine (pe_var (i := i) hN hv hd hcd).imp ?_
  rintro σ H Q ⟨F, ρ, v, S, he, hs, hp⟩
  unfold ev at hp
  cases q : getN v i with
  | none => rw [q] at hp; exact hp.elim
  | some s =>
    rw [q] at hp
    cases s with
    | va d =>
      obtain ⟨o, ho, y, rfl, r⟩ := he.get q
      exact ⟨y, ho, PostA.done hp hs r⟩
    | _ => exact hp.elim
theorem se_int {n : Int} {j pos} : PE X (.Constant (.int n) j pos) (tE Z W G (.int n)) := pe_int.imp fun σ H Q ⟨F, ρ, v, S, he, hs, hp⟩ => PostA.done (P := pV Z) (W := W) (σ := σ) (by unfold ev at hp; exact hp) hs .int
theorem se_bl {n : Bool} {j pos} : PE X (.Constant (.bool n) j pos) (tE Z W G (.bl n)) := pe_bl.imp fun σ H Q ⟨F, ρ, v, S, he, hs, hp⟩ => PostA.done (P := pV Z) (W := W) (σ := σ) (by unfold ev at hp; exact hp) hs .bl
theorem se_non {j pos} : PE X (.Constant .none j pos) (tE Z W G .non) := pe_non.imp fun σ H Q ⟨F, ρ, v, S, he, hs, hp⟩ => PostA.done (P := pV Z) (W := W) (σ := σ) (by unfold ev at hp; exact hp) hs .non
theorem se_str {s : List Nat} {x : Str} {j pos} (h : x = toS s) : PE X (.Constant (.str x) j pos) (tE Z W G (.str s)) := by
  subst h
  exact pe_str.imp fun σ H Q ⟨F, ρ, v, S, he, hs, hp⟩ => PostA.done (P := pV Z) (W := W) (σ := σ) (by unfold ev at hp; exact hp) hs .str

/-! ### argument lists, displays -/
theorem se_nil : PA X [] (tEs Z W G .nil) := pa_nil.imp fun σ H Q ⟨F, ρ, v, S, he, hs, hp⟩ => PostA.done (P := pVs Z) (W := W) (σ := σ) (by unfold evs at hp; exact hp) hs .nil
theorem se_cons {e : Ex} {es : Exs} {a : Expr} {as : List Expr} (ha : PE X a (tE Z W G e)) (hr : PA X as (tEs Z W G es)) (hs : starEach (a :: as) X.env = (false, eval a X.env) :: starEach as X.env) : PA X (a :: as) (tEs Z W G (.cons e es)) := by
  refine (pa_cons ha hr hs).imp fun σ H Q h => ?_
  have h' : tG Z W (fun v S => (ev G e v S).bind fun x S => (evs G es v S).bind fun l S => .ok (x :: l) S) (pVs Z) σ H Q := by
    obtain ⟨F, ρ, v, S, he, hs, hp⟩ := h
    exact ⟨F, ρ, v, S, he, hs, by unfold evs at hp; exact hp⟩
  obtain ⟨F, ρ, v, S, he, hs, hp⟩ := tG.bind2 (P := pV Z) (P' := pVs Z) (fun a b F ρ H F1 ρ1 H1 S e s p => pV.ext e s p) h'
  refine ⟨F, ρ, v, S, he, hs, hp.mono fun a b F' ρ' H' _ p g => ?_⟩
  obtain ⟨F, ρ, v, S, he, hs, hp⟩ := g b p
  refine ⟨F, ρ, v, S, he, hs, hp.mono fun a b F' ρ' H' _ p g => ?_⟩
  obtain ⟨d, l, F2, ρ2, v2, S2, he2, hs2, p1, p2, hq⟩ := g b p
  exact PostA.done hq hs2 (.cons p1 p2)
/-- f after the arguments -/
theorem tG.args {es : Exs} {k : List D → Env → Sto → R D} {P2 : D → V → Hp → List Addr → Hp → Prop} {σ : L2.St} {H : Hp} {Q : VK} (h : tG Z W (fun v S => (evs G es v S).bind fun l S => k l v S) P2 σ H Q) :
    tEs Z W G es σ H fun vs H1 => ∃ l F1 ρ1 v1 S1, EnvR Z F1 ρ1 v1 σ H1 ∧ StoR Z F1 ρ1 S1 H1 ∧ Reps Z F1 ρ1 l vs ∧ PostA Z W (k l v1 S1) P2 F1 ρ1 σ H1 Q := tG.bind (P := pVs Z) h
theorem se_tup {es : Exs} {as : List Expr} {j pos} (ha : PA X as (tEs Z W G es)) : PE X (.Tuple as j pos) (tE Z W G (.tup es)) := by
  refine (pe_tup (x1 := j) ha).imp fun σ H Q h => ?_
  have h' : tG Z W (fun v S => (evs G es v S).bind fun l S => if l.length ≤ SZ then .ok (.tup l) S else .bad) (pV Z) σ H Q := by
    obtain ⟨F, ρ, v, S, he, hs, hp⟩ := h
    exact ⟨F, ρ, v, S, he, hs, by unfold ev at hp; exact hp⟩
  obtain ⟨F, ρ, v, S, he, hs, hp⟩ := tG.args (k := fun l _ S => if l.length ≤ SZ then .ok (.tup l) S else .bad) h'
  refine ⟨F, ρ, v, S, he, hs, hp.mono fun a b F' ρ' H' _ p g => ?_⟩
  obtain ⟨l, F1, ρ1, v1, S1, he1, hs1, r, q⟩ := g b p
  by_cases z : l.length ≤ SZ
  · rw [if_pos z] at q
    rw [sz_line, r.len] at z
    refine ⟨z, fun p hp => ?_⟩
    have e : Ext nO F1 ρ1 H' (upd F1 p (.tup b)) ρ1 (upd H' p (.tup b)) := Ext.laid hp hs1.le
    exact q _ _ _ _ e (hs1.laid hp) (.tup (.inl (.inl upd_same)) (e.reps r))
  · rw [if_neg z] at q; exact q.elim
/-- a new list at p -/
theorem new_list {F : Hp} {ρ : List Addr} {H H0 : Hp} {S : Sto} {σ : L2.St} {Q : VK} {l : List D} {vs : List V} {p : Addr} (hs : StoR Z F ρ S H) (hp : H p = none) (h0 : H p = none → H0 p = none) (r : Reps Z F ρ l vs) (q : PostA Z W (.ok (.lst l) S) (pF Z H0) F ρ σ H Q) :
    Q (.ref p) (upd H p (.lst vs)) := by
  refine q _ F ρ _ (Ext.made hp) (hs.made hp) ⟨l, p, vs, rfl, rfl, upd_same, ?_, h0 hp, r⟩
  cases z : F p with
  | none => rfl
  | some u => rw [hs.le p u z] at hp; cases hp
theorem sf_lst {es : Exs} {as : List Expr} {pos} (ha : PA X as (tEs Z W G es)) : PE X (.List as pos) (tF Z W (ev G (.lst es))) := by
  refine (pe_lst ha).imp fun σ H Q h => ?_
  obtain ⟨F, ρ, v, S, he, hs, hp⟩ := h
  have h' : tG Z W (fun v S => (evs G es v S).bind fun l S => if l.length ≤ SZ then .ok (.lst l) S else .bad) (pF Z H) σ H Q := ⟨F, ρ, v, S, he, hs, by unfold ev at hp; exact hp⟩
  obtain ⟨F, ρ, v, S, he, hs, hp⟩ := tG.args (k := fun l _ S => if l.length ≤ SZ then .ok (.lst l) S else .bad) h'
  refine ⟨F, ρ, v, S, he, hs, hp.mono fun a b F' ρ' H' e p g => ?_⟩
  obtain ⟨l, F1, ρ1, v1, S1, he1, hs1, r, q⟩ := g b p
  by_cases z : l.length ≤ SZ
  · rw [if_pos z] at q
    rw [sz_line, r.len] at z
    exact ⟨z, fun p hp => new_list hs1 hp (e.dom p) r q⟩
  · rw [if_neg z] at q; exact q.elim
theorem _root_.L2.PE.still {e : Ex} {a : Expr} (h : PE X a (tF Z W (ev G e))) : PE X a (tE Z W G e) := h.imp fun σ H Q => fresh_still
end
end Mi

set_option Elab.async false
set_option linter.all false
set_option maxRecDepth 100000
set_option maxHeartbeats 4000000
/-! Mi, part 5: operators. -/
namespace Mi
open PySem PySem.Spec PyProof.Rows L2

def opO : Bi → Operator
  | .add => .Add
  | .sub => .Sub
  | .mul => .Mult
  | .fdiv => .FloorDiv
  | .mod => .Mod
  | .pow => .Pow
  | .band => .BitAnd
  | .bor => .BitOr
  | .bxor => .BitXor
  | .shl => .LShift
  | .shr => .RShift
def cmO : Cm → CmpOp
  | .lt => .Lt
  | .le => .LtE
  | .gt => .Gt
  | .ge => .GtE
  | .eq => .Eq
  | .ne => .NotEq
  | .isin => .In
  | .notin => .NotIn
abbrev W0 : WX := fun _ _ _ _ => False
def isIns : D → Bool
  | .ins _ _ => true
  | _ => false
/-- an operator on two values, by the interpreter -/
def rB (Z : Ci) (G : Ga) (o : Bi) : R2 := fun x y H Q => ∃ F ρ S dx dy, StoR Z F ρ S H ∧ Rep Z F ρ dx x ∧ Rep Z F ρ dy y ∧ PostA Z W0 (binop G o dx dy S) (pV Z) F ρ [] H Q
/-- .. where one of both is an instance -/
def rBi (Z : Ci) (G : Ga) (o : Bi) : R2 := fun x y H Q => ∃ F ρ S dx dy, (isIns dx = true ∨ isIns dy = true) ∧ StoR Z F ρ S H ∧ Rep Z F ρ dx x ∧ Rep Z F ρ dy y ∧ PostA Z W0 (binop G o dx dy S) (pV Z) F ρ [] H Q
/-- .. on plain values -/
def rBp (Z : Ci) (o : Bi) : R2 := fun x y H Q => ∃ F ρ S dx dy d, StoR Z F ρ S H ∧ Rep Z F ρ dx x ∧ Rep Z F ρ dy y ∧ binP o dx dy = some d ∧ PostA Z W0 (.ok d S) (pV Z) F ρ [] H Q
section
variable {Z : Ci} {W : WX} {G : Ga} {X : Cx}
theorem binop_plain {o : Bi} {x y : D} {S : Sto} (hx : isIns x = false) (hy : isIns y = false) : binop G o x y S = match binP o x y with
    | some d => .ok d S
    | none => .bad := by
  cases x <;> first | (cases hx; done) | skip
  all_goals cases y <;> first | rfl | cases hy
theorem opr_all {o : Bi} (hp : OpR X (binaryOp (opO o)) (rBp Z o)) (hi : OpR X (binaryOp (opO o)) (rBi Z G o)) : OpR X (binaryOp (opO o)) (rB Z G o) := by
  intro pins s σ H x y v u Q I rx ry h
  obtain ⟨F, ρ, S, dx, dy, hs, r1, r2, hq⟩ := h
  cases h1 : isIns dx with
  | true => exact hi pins s σ H x y v u Q I rx ry ⟨F, ρ, S, dx, dy, .inl h1, hs, r1, r2, hq⟩
  | false =>
    cases h2 : isIns dy with
    | true => exact hi pins s σ H x y v u Q I rx ry ⟨F, ρ, S, dx, dy, .inr h2, hs, r1, r2, hq⟩
    | false =>
      rw [binop_plain h1 h2] at hq
      cases e : binP o dx dy with
      | none => rw [e] at hq; exact hq.elim
      | some d => rw [e] at hq; exact hp pins s σ H x y v u Q I rx ry ⟨F, ρ, S, dx, dy, d, hs, r1, r2, e, hq⟩
/-- lists that are tracked or known -/
theorem rd_list {pins : List (Addr × Obj)} {σ : L2.St} {H : Hp} {s : Shared} {a : Addr} {xs : List V} (I : Inv X pins σ H s) (h : Rd H a (.lst xs)) :
    xs.length ≤ sizeLine ∧ ∃ (us : List Value) (n : Nat), Vals xs us ∧ xs.length = us.length ∧ s.heap.get? a = some { cls := .type "list", data := .seq us.toArray n } := by
  obtain ⟨z, us, n, r, e⟩ := h.ok I.hok
  exact ⟨z, us, n, r, r.length, e⟩
theorem add_lists {pins : List (Addr × Obj)} {s : Shared} {σ : L2.St} {H : Hp} {a b : Addr} {xs zs : List V} {Q : VK} (I : Inv X pins σ H s) (h1 : Rd H a (.lst xs)) (h2 : Rd H b (.lst zs)) (hz : xs.length + zs.length ≤ sizeLine)
    (q : ∀ p, H p = none → Q (.ref p) (upd H p (.lst (xs ++ zs)))) : wpAny (model X.prog X.w) X.A (binaryOp .Add (.ref a) (.ref b)) (EP X pins σ Q) X.xe s := by
  obtain ⟨_, us, n, r, l1, g1⟩ := rd_list I h1
  obtain ⟨_, ws, m, r', l2, g2⟩ := rd_list I h2
  refine PySem.P.add_list g1 g2 ?_ (by simp only [List.size_toArray]; omega)
  rw [show us.toArray ++ ws.toArray = (us ++ ws).toArray by simp]
  exact ⟨.ref _, _, I.lnew (t' := s.toks) (r.append r') (by simp only [List.length_append]; omega), rfl, q _ I.fresh⟩
/-- the end at a value that needs nothing of the heap -/
theorem fin_val {F : Hp} {ρ : List Addr} {S : Sto} {H : Hp} {d : D} {x : V} {Q : VK} (hs : StoR Z F ρ S H) (r : Rep Z F ρ d x) (q : PostA Z W (.ok d S) (pV Z) F ρ [] H Q) : Q x H := PostA.done q hs r
theorem fin_lst {F : Hp} {ρ : List Addr} {S : Sto} {H : Hp} {l : List D} {vs : List V} {Q : VK} {p : Addr} (hs : StoR Z F ρ S H) (hp : H p = none) (r : Reps Z F ρ l vs) (q : PostA Z W (.ok (.lst l) S) (pV Z) F ρ [] H Q) : Q (.ref p) (upd H p (.lst vs)) := by
  have e : Ext nO F ρ H (upd F p (.lst vs)) ρ (upd H p (.lst vs)) := Ext.laid hp hs.le
  exact q _ _ _ _ e (hs.laid hp) (.lst (.inl upd_same) (e.reps r))
theorem fin_tup {F : Hp} {ρ : List Addr} {S : Sto} {H : Hp} {l : List D} {vs : List V} {Q : VK} {p : Addr} (hs : StoR Z F ρ S H) (hp : H p = none) (r : Reps Z F ρ l vs) (q : PostA Z W (.ok (.tup l) S) (pV Z) F ρ [] H Q) : Q (.ref p) (upd H p (.tup vs)) := by
  have e : Ext nO F ρ H (upd F p (.tup vs)) ρ (upd H p (.tup vs)) := Ext.laid hp hs.le
  exact q _ _ _ _ e (hs.laid hp) (.tup (.inl (.inl upd_same)) (e.reps r))
theorem toS_app (a b : List Nat) : toS (a ++ b) = toS a ++ toS b := by
  show (⟨(a ++ b).toArray⟩ : Str) = (⟨a.toArray ++ b.toArray⟩ : Str)
  simp
theorem toS_len (a : List Nat) : (toS a).length = a.length := by
  show a.toArray.size = a.length
  simp
theorem opp_add (hK : X.K = Z.K) : OpR X (binaryOp .Add) (rBp Z .add) := by
  intro pins s σ H x y v u Q I rx ry h
  obtain ⟨F, ρ, S, dx, dy, d, hs, r1, r2, e, hq⟩ := h
  cases r1 <;> cases r2 <;> simp only [binP] at e <;> first | (cases e; done) | skip
  case int.int i j => cases e; exact op_add pins s σ H _ _ v u Q I rx ry ⟨i, j, rfl, rfl, fin_val hs .int hq⟩
  case str.str a b =>
    by_cases z : a.length + b.length ≤ SZ
    · rw [if_pos z] at e; cases e
      refine op_add_str pins s σ H _ _ v u Q I rx ry ⟨toS a, toS b, rfl, rfl, by rw [toS_len, toS_len, ← sz_line]; exact z, ?_⟩
      rw [← toS_app]
      exact fin_val hs .str hq
    · rw [if_neg z] at e; cases e
  case lst.lst a xs l h1 q1 b ys m h2 q2 =>
    by_cases z : l.length + m.length ≤ SZ
    · rw [if_pos z] at e; cases e
      rw [sz_line, q1.len, q2.len] at z
      cases rx; cases ry
      exact add_lists I (rdM hs.le h1) (rdM hs.le h2) z fun p hp => fin_lst hs hp (q1.app q2) hq
    · rw [if_neg z] at e; cases e
  case tup.tup a xs l h1 q1 b ys m h2 q2 =>
    by_cases z : l.length + m.length ≤ SZ
    · rw [if_pos z] at e; cases e
      rw [sz_line, q1.len, q2.len] at z
      refine op_catA pins s σ H _ _ v u Q I rx ry ⟨a, b, xs, ys, rfl, rfl, by rw [hK]; exact seqT hs.le h1, by rw [hK]; exact seqT hs.le h2, z, fun e1 => ?_, fun e1 e2 => ?_, fun e1 e2 p hp => fin_tup hs hp (q1.app q2) hq⟩
      · subst e1; cases q1; exact fin_val hs (.tup h2 q2) hq
      · subst e2; cases q2; rw [List.append_nil] at hq; exact fin_val hs (.tup h1 q1) hq
    · rw [if_neg z] at e; cases e
theorem opp_sub : OpR X (binaryOp .Sub) (rBp Z .sub) := by
  intro pins s σ H x y v u Q I rx ry h
  obtain ⟨F, ρ, S, dx, dy, d, hs, r1, r2, e, hq⟩ := h
  cases r1 <;> cases r2 <;> simp only [binP] at e <;> first | (cases e; done) | skip
  case int.int i j => cases e; exact op_sub pins s σ H _ _ v u Q I rx ry ⟨i, j, rfl, rfl, fin_val hs .int hq⟩
  case bl.bl a b =>
    cases e
    cases rx; cases ry
    refine PyProof.Rows.sub_bool ⟨.int (b2 a - b2 b), H, I.tok _, ⟨s.toks, ?_⟩, fin_val hs .int hq⟩
    cases a <;> cases b <;> rfl
theorem rep_eq {α : Type} (l : List α) : ∀ n : Nat, rep l n = (List.replicate n l).flatten
  | 0 => rfl
  | n + 1 => by rw [List.replicate_succ, List.flatten_cons, ← rep_eq l n]; rfl
theorem Reps.rep {F : Hp} {ρ : List Addr} {l : List D} {vs : List V} (h : Reps Z F ρ l vs) : ∀ n : Nat, Reps Z F ρ (rep l n) (rep vs n)
  | 0 => .nil
  | n + 1 => h.app (Reps.rep h n)
theorem times_list {pins : List (Addr × Obj)} {s : Shared} {σ : L2.St} {H : Hp} {a : Addr} {xs : List V} {k : Int} {t : Tok} {Q : VK} (I : Inv X pins σ H s) (h : Rd H a (.lst xs)) (h1 : -(2 ^ 63) ≤ k) (h2 : k < 2 ^ 63) (hz : xs.length * k.toNat ≤ sizeLine)
    (q : ∀ p, H p = none → Q (.ref p) (upd H p (.lst (List.replicate k.toNat xs).flatten))) : wpAny (model X.prog X.w) X.A (binaryOp .Mult (.ref a) (.int k t)) (EP X pins σ Q) X.xe s := by
  obtain ⟨_, us, n, r, hl, g⟩ := rd_list I h
  have room : us.toArray.size * k.toNat ≤ sizeLine := by simp only [List.size_toArray]; rw [← hl]; exact hz
  have cap : ¬ us.toArray.size * k.toNat > (2 ^ 63 - 1) / 8 := by
    have := sizeLine_eq
    omega
  have fit : ¬ (!Builtin.List.listFitsIndex k) = true := by rw [fitsIndex_both h1 h2]; decide
  have long : ¬ Builtin.List.listTooLong (us.toArray.size * k.toNat) = true := by rw [notLongL room]; decide
  have made : List.foldl (fun x1 x2 => x1 ++ x2) #[] (List.replicate (if us.toArray.isEmpty = true then 0 else k.toNat) us.toArray) = (List.replicate k.toNat us).flatten.toArray := by
    have f0 : ∀ m : Nat, List.foldl (fun x1 x2 => x1 ++ x2) #[] (List.replicate m us.toArray) = (List.replicate m us).flatten.toArray := fun m => by simpa using foldl_rep us m []
    rw [f0]
    cases us with
    | nil => simp
    | cons a r' => rw [if_neg (by simp)]
  refine wpAny_binaryOp_repeat_ref (T := "list") (U := "int") (by decide) ⟨_, g, rfl⟩ (fun s' => typeIs_int s' k t) noFill_list_mul F.fills_int_mul F.slot_int_rmul repeat_list F.slot_int_index.lookup
    (call_meets F.slot_int_rmul (typeIs_int s k t) F.entry_int_rmul (F.args_int_rmul_2 _ _) (int___rmul___int_list k t a us.toArray n)
      ⟨g, rfl, ⟨_, g, rfl⟩, call_meets F.slot_list_mul ⟨_, g, rfl⟩ F.entry_list_mul (F.args_list_mul_2 _ _) (AutoListH.list___mul___list_int_3 a us.toArray n k t fit cap long) ⟨g, ?_⟩⟩)
  rw [made]
  exact ⟨.ref _, _, I.lnew (t' := s.toks) (r.rep k.toNat) (by rw [PyProof.Rows.lm_len_rep_flat, Nat.mul_comm]; exact hz), rfl, q _ I.fresh⟩
theorem opp_mul : OpR X (binaryOp .Mult) (rBp Z .mul) := by
  intro pins s σ H x y v u Q I rx ry h
  obtain ⟨F, ρ, S, dx, dy, d, hs, r1, r2, e, hq⟩ := h
  cases r1 <;> cases r2 <;> simp only [binP] at e <;> first | (cases e; done) | skip
  case int.int i j =>
    by_cases z : mulOk i j = true
    · rw [if_pos z] at e; cases e
      unfold mulOk at z
      simp only [Bool.or_eq_true, decide_eq_true_eq] at z
      rcases z with (z | z) | z
      · exact op_mul pins s σ H _ _ v u Q I rx ry ⟨i, j, rfl, rfl, .inl ⟨by omega, by omega⟩, fin_val hs .int hq⟩
      · exact op_mul pins s σ H _ _ v u Q I rx ry ⟨i, j, rfl, rfl, .inr ⟨by omega, by omega⟩, fin_val hs .int hq⟩
      · exact op_mulW pins s σ H _ _ v u Q I rx ry ⟨i, j, rfl, rfl, (by show i.natAbs.log2 + j.natAbs.log2 < 1000000; omega), fin_val hs .int hq⟩
    · rw [if_neg z] at e; cases e
  case lst.int a xs l h1 q1 k =>
    by_cases z : k < 9223372036854775808 ∧ -9223372036854775808 ≤ k ∧ l.length * k.toNat ≤ SZ
    · rw [if_pos z] at e; cases e
      obtain ⟨z1, z2, z3⟩ := z
      cases rx
      obtain ⟨t, rfl⟩ := ry
      refine times_list I (rdM hs.le h1) (by omega) (by omega) (by rw [← q1.len, ← sz_line]; exact z3) fun p hp => ?_
      rw [← rep_eq]
      exact fin_lst hs hp (q1.rep _) hq
    · rw [if_neg z] at e; cases e
theorem opp_fdiv : OpR X (binaryOp .FloorDiv) (rBp Z .fdiv) := by
  intro pins s σ H x y v u Q I rx ry h
  obtain ⟨F, ρ, S, dx, dy, d, hs, r1, r2, e, hq⟩ := h
  cases r1 <;> cases r2 <;> simp only [binP] at e <;> first | (cases e; done) | skip
  case int.int i j =>
    by_cases z : divOk j = true
    · rw [if_pos z] at e; cases e
      unfold divOk at z
      simp only [Bool.or_eq_true, Bool.and_eq_true, decide_eq_true_eq] at z
      rcases z with ⟨z1, z2⟩ | ⟨z1, z2⟩
      · exact op_fdivN pins s σ H _ _ v u Q I rx ry ⟨i, j, rfl, rfl, ⟨z1, z2⟩, fin_val hs .int hq⟩
      · refine op_fdivW pins s σ H _ _ v u Q I rx ry ⟨i, j, rfl, rfl, ⟨z1, z2⟩, ?_⟩
        rw [Int.fdiv_eq_ediv_of_nonneg i (Int.le_of_lt z1)] at hq
        exact fin_val hs .int hq
    · rw [if_neg z] at e; cases e
theorem opp_mod : OpR X (binaryOp .Mod) (rBp Z .mod) := by
  intro pins s σ H x y v u Q I rx ry h
  obtain ⟨F, ρ, S, dx, dy, d, hs, r1, r2, e, hq⟩ := h
  cases r1 <;> cases r2 <;> simp only [binP] at e <;> first | (cases e; done) | skip
  case int.int i j =>
    by_cases z : j ≠ 0
    · rw [if_pos z] at e; cases e
      exact op_modN pins s σ H _ _ v u Q I rx ry ⟨i, j, rfl, rfl, z, fin_val hs .int hq⟩
    · rw [if_neg z] at e; cases e
theorem opp_pow : OpR X (binaryOp .Pow) (rBp Z .pow) := by
  intro pins s σ H x y v u Q I rx ry h
  obtain ⟨F, ρ, S, dx, dy, d, hs, r1, r2, e, hq⟩ := h
  cases r1 <;> cases r2 <;> simp only [binP] at e <;> first | (cases e; done) | skip
  case int.int i j =>
    by_cases z : powOk i j = true
    · rw [if_pos z] at e; cases e
      unfold powOk at z
      simp only [Bool.and_eq_true, decide_eq_true_eq] at z
      exact op_pow pins s σ H _ _ v u Q I rx ry ⟨i, j, rfl, rfl, ⟨z.1.1, z.1.2, by have := z.2; omega⟩, fin_val hs .int hq⟩
    · rw [if_neg z] at e; cases e
/-- every operator on plain values -/
theorem opp_all (hK : X.K = Z.K) : ∀ o : Bi, OpR X (binaryOp (opO o)) (rBp Z o)
  | .add => opp_add hK
  | .sub => opp_sub
  | .mul => opp_mul
  | .fdiv => opp_fdiv
  | .mod => opp_mod
  | .pow => opp_pow
  | .band => fun _ _ _ _ _ _ _ _ _ _ _ _ ⟨_, _, _, _, _, _, _, _, _, e, _⟩ => by simp [binP] at e
  | .bor => fun _ _ _ _ _ _ _ _ _ _ _ _ ⟨_, _, _, _, _, _, _, _, _, e, _⟩ => by simp [binP] at e
  | .bxor => fun _ _ _ _ _ _ _ _ _ _ _ _ ⟨_, _, _, _, _, _, _, _, _, e, _⟩ => by simp [binP] at e
  | .shl => fun _ _ _ _ _ _ _ _ _ _ _ _ ⟨_, _, _, _, _, _, _, _, _, e, _⟩ => by simp [binP] at e
  | .shr => fun _ _ _ _ _ _ _ _ _ _ _ _ ⟨_, _, _, _, _, _, _, _, _, e, _⟩ => by simp [binP] at e

/-! ### comparisons -/
mutual
def toP : D → PyData
  | .non => .none
  | .bl b => .bool b
  | .int i => .int i
  | .str s => .str (toS s)
  | .lst l => .list (toPs l)
  | .tup l => .tuple (toPs l)
  | .ins _ _ => .none
  | .dr _ => .none
  | .fn _ => .none
def toPs : List D → List PyData
  | [] => []
  | d :: l => toP d :: toPs l
end
theorem toPs_map : ∀ l : List D, toPs l = l.map toP
  | [] => rfl
  | d :: l => by
    show toP d :: toPs l = toP d :: l.map toP
    rw [toPs_map l]
theorem any_same {α : Type} {f g : α → Bool} : ∀ {l : List α}, (∀ d ∈ l, f d = g d) → l.any f = l.any g
  | [], _ => rfl
  | a :: l, h => by
    rw [List.any_cons, List.any_cons, h a (by simp), any_same fun d hd => h d (by simp [hd])]
theorem toS_inj {a b : List Nat} : (toS a == toS b) = (a == b) := by
  by_cases h : a = b
  · subst h; simp
  · have : toS a ≠ toS b := fun e => h (by
      have e2 : a.toArray = b.toArray := congrArg Str.cps e
      simpa using congrArg Array.toList e2)
    rw [beq_eq_false_iff_ne.mpr h]
    exact beq_eq_false_iff_ne.mpr this
mutual
theorem eqv_toP : ∀ (n m : Nat) (x y : D), shN n x = true → shN m y = true → PyData.eqv (toP x) (toP y) = eqB x y
  | 0, _, _, _, h, _ => by cases h
  | _ + 1, 0, _, _, _, h => by cases h
  | n + 1, m + 1, x, y, h, k => by
    cases x <;> cases y <;> first | (simp [shN] at h; done) | (simp [shN] at k; done) | skip
    all_goals simp only [toP, PyData.eqv, eqB]
    case str.str a b => exact toS_inj
    case lst.lst a b => exact eqvAll_toP n m a b (by simpa [shN] using h) (by simpa [shN] using k)
    case tup.tup a b => exact eqvAll_toP n m a b (by simpa [shN] using h) (by simpa [shN] using k)
    case bl.int a b => cases a <;> rfl
    case int.bl a b => cases b <;> rfl
theorem eqvAll_toP : ∀ (n m : Nat) (x y : List D), (∀ d ∈ x, shN n d = true) → (∀ d ∈ y, shN m d = true) → PyData.eqvAll (toPs x) (toPs y) = eqL x y
  | _, _, [], [], _, _ => rfl
  | _, _, [], _ :: _, _, _ => rfl
  | _, _, _ :: _, [], _, _ => rfl
  | n, m, a :: x, b :: y, h, k => by
    show (PyData.eqv (toP a) (toP b) && PyData.eqvAll (toPs x) (toPs y)) = (eqB a b && eqL x y)
    rw [eqv_toP n m a b (h a (by simp)) (k b (by simp)), eqvAll_toP n m x y (fun d hd => h d (by simp [hd])) (fun d hd => k d (by simp [hd]))]
end
mutual
theorem lay_toP : ∀ (n : Nat) (x : D), shN n x = true → (toP x).canLay0 = true ∧ (toP x).depth ≤ n
  | 0, _, h => by cases h
  | n + 1, x, h => by
    cases x <;> first | (simp [shN] at h; done) | skip
    all_goals simp only [toP, PyData.canLay0, PyData.depth]
    case str s =>
      refine ⟨?_, Nat.zero_le _⟩
      have h' : ∀ c ∈ s, c < 1114112 := by simpa [shN] using h
      show (toS s).cps.all (· < 0x110000) = true
      show s.toArray.all _ = true
      simpa using h'
    case lst l =>
      obtain ⟨a, b⟩ := layAll_toP n l (by simpa [shN] using h)
      exact ⟨a, Nat.succ_le_succ b⟩
    case tup l =>
      obtain ⟨a, b⟩ := layAll_toP n l (by simpa [shN] using h)
      exact ⟨a, Nat.succ_le_succ b⟩
    all_goals exact ⟨trivial, Nat.zero_le _⟩
theorem layAll_toP : ∀ (n : Nat) (x : List D), (∀ d ∈ x, shN n d = true) → PyData.canLayAll0 (toPs x) = true ∧ PyData.depthAll (toPs x) ≤ n
  | _, [], _ => ⟨rfl, Nat.zero_le _⟩
  | n, a :: x, h => by
    obtain ⟨a1, a2⟩ := lay_toP n a (h a (by simp))
    obtain ⟨b1, b2⟩ := layAll_toP n x fun d hd => h d (by simp [hd])
    refine ⟨?_, ?_⟩
    · show ((toP a).canLay0 && PyData.canLayAll0 (toPs x)) = true
      rw [a1, b1]; rfl
    · show max (toP a).depth (PyData.depthAll (toPs x)) ≤ n
      omega
end
theorem shaped_toP {n : Nat} {x : D} (h : shN n x = true) (hn : n ≤ 64) : SeqAt.shaped (toP x) = true := by
  obtain ⟨a, b⟩ := lay_toP n x h
  unfold SeqAt.shaped
  rw [a]
  simp only [Bool.true_and, decide_eq_true_eq]
  omega
mutual
theorem Rep.dp {F H : Hp} {ρ : List Addr} (le : Same F H) (hK : X.K = Z.K) : ∀ (n : Nat) (x : D) (v : V), shN n x = true → Rep Z F ρ x v → Dp X.K H v (toP x)
  | 0, _, _, h, _ => by cases h
  | n + 1, x, v, h, r => by
    cases r with
    | non => exact .non
    | bl => exact .bl _
    | int => exact .int _
    | str => exact .str _
    | lst h1 r1 => exact .lst (.inl (rdM le h1)) (Reps.dp le hK n _ _ (by simpa [shN] using h) r1)
    | tup h1 r1 => exact .tup (by rw [hK]; exact seqT le h1) (Reps.dp le hK n _ _ (by simpa [shN] using h) r1)
    | ins h1 hl r1 => simp [shN] at h
    | dr h1 => simp [shN] at h
    | fn _ _ _ => simp [shN] at h
theorem Reps.dp {F H : Hp} {ρ : List Addr} (le : Same F H) (hK : X.K = Z.K) : ∀ (n : Nat) (l : List D) (vs : List V), (∀ d ∈ l, shN n d = true) → Reps Z F ρ l vs → DpAll X.K H vs (toPs l)
  | _, [], _, _, r => by cases r; exact .nil
  | n, a :: l, _, h, r => by
    cases r with
    | cons r1 r2 => exact .cons (Rep.dp le hK n a _ (h a (by simp)) r1) (Reps.dp le hK n l _ (fun d hd => h d (by simp [hd])) r2)
end
/-- a comparison of plain values, by the interpreter -/
def rC (Z : Ci) (o : Cm) : R2 := fun x y H Q => ∃ F ρ S dx dy b, StoR Z F ρ S H ∧ Rep Z F ρ dx x ∧ Rep Z F ρ dy y ∧ cmpP o dx dy = some b ∧ Q (.bl b) H
theorem opc_ord {f : Int → Int → Bool} {op : CmpOp} {o : Cm} (h : OpR X (compareOp op) (rI0 fun i j => .bl (f i j))) (hc : ∀ x y b, cmpP o x y = some b → ∃ i j, x = .int i ∧ y = .int j ∧ b = f i j) : OpR X (compareOp op) (rC Z o) := by
  intro pins s σ H x y v u Q I rx ry ⟨F, ρ, S, dx, dy, b, hs, r1, r2, e, q⟩
  obtain ⟨i, j, rfl, rfl, rfl⟩ := hc _ _ _ e
  cases r1; cases r2
  exact h pins s σ H _ _ v u Q I rx ry ⟨i, j, rfl, rfl, q⟩
theorem eqD_some {x y : D} {b : Bool} (h : eqD x y = some b) : shN 60 x = true ∧ shN 60 y = true ∧ b = eqB x y := by
  unfold eqD at h
  split at h
  · rename_i z
    simp only [Bool.and_eq_true] at z
    exact ⟨z.1, z.2, (Option.some.inj h).symm⟩
  · cases h
theorem opc_all (hK : X.K = Z.K) (hu : X.A.units + 65 < cLine) : ∀ o : Cm, OpR X (compareOp (cmO o)) (rC Z o)
  | .lt => opc_ord op_lt fun x y b h => by cases x <;> cases y <;> simp [cmpP] at h; exact ⟨_, _, rfl, rfl, h.symm⟩
  | .le => opc_ord op_le fun x y b h => by cases x <;> cases y <;> simp [cmpP] at h; exact ⟨_, _, rfl, rfl, h.symm⟩
  | .gt => opc_ord op_gt fun x y b h => by cases x <;> cases y <;> simp [cmpP] at h; exact ⟨_, _, rfl, rfl, h.symm⟩
  | .ge => opc_ord op_ge fun x y b h => by cases x <;> cases y <;> simp [cmpP] at h; exact ⟨_, _, rfl, rfl, h.symm⟩
  | .eq => fun pins s σ H x y v u Q I rx ry ⟨F, ρ, S, dx, dy, b, hs, r1, r2, e, q⟩ => by
    obtain ⟨z1, z2, rfl⟩ := eqD_some e
    rw [← eqv_toP 60 60 dx dy z1 z2] at q
    exact op_eqD (by omega) pins s σ H x y v u Q I rx ry ⟨toP dx, toP dy, r1.dp hs.le hK 60 _ _ z1, r2.dp hs.le hK 60 _ _ z2, shaped_toP z1 (by omega), shaped_toP z2 (by omega), q⟩
  | .ne => fun pins s σ H x y v u Q I rx ry ⟨F, ρ, S, dx, dy, b, hs, r1, r2, e, q⟩ => by
    have e' : (eqD dx dy).map not = some b := e
    cases w : eqD dx dy with
    | none => rw [w] at e'; cases e'
    | some c =>
      rw [w] at e'
      cases e'
      obtain ⟨z1, z2, rfl⟩ := eqD_some w
      rw [← eqv_toP 60 60 dx dy z1 z2] at q
      exact op_neD (by omega) pins s σ H x y v u Q I rx ry ⟨toP dx, toP dy, r1.dp hs.le hK 60 _ _ z1, r2.dp hs.le hK 60 _ _ z2, shaped_toP z1 (by omega), shaped_toP z2 (by omega), q⟩
  | .isin => fun pins s σ H x y v u Q I rx ry ⟨F, ρ, S, dx, dy, b, hs, r1, r2, e, q⟩ => by
    have key : ∀ l, inD dx l = some b → shN 60 dx = true ∧ (∀ d ∈ l, shN 59 d = true) ∧ b = (toPs l).any fun z => PyData.eqv z (toP dx) := fun l h => by
      unfold inD at h
      split at h
      · rename_i z
        simp only [Bool.and_eq_true, List.all_eq_true] at z
        refine ⟨z.1, z.2, ?_⟩
        rw [← Option.some.inj h, toPs_map, List.any_map]
        refine (any_same fun d hd => ?_)
        exact (eqv_toP 59 60 d dx (z.2 d hd) z.1).symm
      · cases h
    obtain ⟨as, rd1⟩ := Dp.reads I (toP dx) x v (r1.dp hs.le hK 60 _ _ (by
      cases r2 <;> simp only [cmpP] at e <;> first | (cases e; done) | exact (key _ e).1)) rx
    cases r2 with
    | lst h1 r =>
      obtain ⟨k1, k2, k3⟩ := key _ e
      obtain ⟨bs, rd2⟩ := Dp.reads I _ _ u (Dp.lst (.inl (rdM hs.le h1)) (Reps.dp hs.le hK 59 _ _ k2 r)) ry
      obtain ⟨l1, l2⟩ := layAll_toP 59 _ k2
      refine SeqAt.in_list_reads rd2 rd1 l1 (lay_toP 60 _ k1).1 ?_ ⟨.bl _, H, I, rfl, by rw [k3] at q; exact q⟩
      omega
    | tup h1 r =>
      obtain ⟨k1, k2, k3⟩ := key _ e
      obtain ⟨bs, rd2⟩ := Dp.reads I _ _ u (Dp.tup (by rw [hK]; exact seqT hs.le h1) (Reps.dp hs.le hK 59 _ _ k2 r)) ry
      obtain ⟨l1, l2⟩ := layAll_toP 59 _ k2
      refine SeqAt.in_tuple_reads rd2 rd1 l1 (lay_toP 60 _ k1).1 ?_ ⟨.bl _, H, I, rfl, by rw [k3] at q; exact q⟩
      omega
    | _ => simp only [cmpP] at e; cases e
  | .notin => fun pins s σ H x y v u Q I rx ry ⟨F, ρ, S, dx, dy, b, hs, r1, r2, e, q⟩ => by
    have key : ∀ l, (inD dx l).map not = some b → shN 60 dx = true ∧ (∀ d ∈ l, shN 59 d = true) ∧ b = !((toPs l).any fun z => PyData.eqv z (toP dx)) := fun l h => by
      unfold inD at h
      split at h
      · rename_i z
        simp only [Bool.and_eq_true, List.all_eq_true] at z
        refine ⟨z.1, z.2, ?_⟩
        rw [← Option.some.inj (show some (!(l.any fun y => eqB y dx)) = some b from h), toPs_map, List.any_map]
        refine congrArg not (any_same fun d hd => ?_)
        exact (eqv_toP 59 60 d dx (z.2 d hd) z.1).symm
      · cases h
    obtain ⟨as, rd1⟩ := Dp.reads I (toP dx) x v (r1.dp hs.le hK 60 _ _ (by
      cases r2 <;> simp only [cmpP] at e <;> first | (cases e; done) | exact (key _ e).1)) rx
    cases r2 with
    | lst h1 r =>
      obtain ⟨k1, k2, k3⟩ := key _ e
      obtain ⟨bs, rd2⟩ := Dp.reads I _ _ u (Dp.lst (.inl (rdM hs.le h1)) (Reps.dp hs.le hK 59 _ _ k2 r)) ry
      obtain ⟨l1, l2⟩ := layAll_toP 59 _ k2
      refine SeqAt.notIn_list_reads rd2 rd1 l1 (lay_toP 60 _ k1).1 ?_ ⟨.bl _, H, I, rfl, by rw [k3] at q; exact q⟩
      omega
    | tup h1 r =>
      obtain ⟨k1, k2, k3⟩ := key _ e
      obtain ⟨bs, rd2⟩ := Dp.reads I _ _ u (Dp.tup (by rw [hK]; exact seqT hs.le h1) (Reps.dp hs.le hK 59 _ _ k2 r)) ry
      obtain ⟨l1, l2⟩ := layAll_toP 59 _ k2
      refine SeqAt.notIn_tuple_reads rd2 rd1 l1 (lay_toP 60 _ k1).1 ?_ ⟨.bl _, H, I, rfl, by rw [k3] at q; exact q⟩
      omega
    | _ => simp only [cmpP] at e; cases e
end
end Mi

set_option Elab.async false
set_option linter.all false
set_option maxRecDepth 100000
set_option maxHeartbeats 4000000
/-! Mi, part 6: more expressions. -/
namespace Mi
open PySem PySem.Spec PyProof.Rows L2
section
variable {Z : Ci} {W : WX} {G : Ga} {X : Cx} {α β γ δ : Type}
/-- unfolding under a reading -/
theorem tG.eq {f g : Env → Sto → R α} {P : α → β → Hp → List Addr → Hp → Prop} {σ : L2.St} {H : Hp} {Q : β → Hp → Prop} (h : tG Z W f P σ H Q) (e : ∀ v S, f v S = g v S) : tG Z W g P σ H Q := by
  obtain ⟨F, ρ, v, S, he, hs, hp⟩ := h
  exact ⟨F, ρ, v, S, he, hs, by rw [← e]; exact hp⟩
theorem tG.wk {f : Env → Sto → R α} {P : α → β → Hp → List Addr → Hp → Prop} {σ : L2.St} {H : Hp} {Q Q' : β → Hp → Prop} (h : tG Z W f P σ H Q) (q : ∀ b H', Q b H' → Q' b H') : tG Z W f P σ H Q' := by
  obtain ⟨F, ρ, v, S, he, hs, hp⟩ := h
  exact ⟨F, ρ, v, S, he, hs, hp.mono fun a d F' ρ' H' _ p g => q d H' (g d p)⟩
/-- a known operand: its parts follow from the part's own reading -/
theorem tG.map {f : Env → Sto → R α} {k : α → Sto → R γ} {P : α → β → Hp → List Addr → Hp → Prop} {P2 : γ → β → Hp → List Addr → Hp → Prop} {σ : L2.St} {H : Hp} {Q : β → Hp → Prop}
    (h : tG Z W (fun v S => (f v S).bind fun a S => k a S) P2 σ H Q)
    (hk : ∀ a b F ρ H S, StoR Z F ρ S H → P a b F ρ H → (∃ c, k a S = .ok c S ∧ P2 c b F ρ H) ∨ k a S = .bad) : tG Z W f P σ H Q := by
  refine (tG.bind (P := P) (k := fun a _ S => k a S) h).wk fun b H' ⟨a, F1, ρ1, v1, S1, he, hs, p, q⟩ => ?_
  rcases hk a b F1 ρ1 H' S1 hs p with ⟨c, e, p2⟩ | e
  · rw [e] at q; exact PostA.done q hs p2
  · rw [e] at q; exact q.elim

/-! ### tests -/
theorem asB_bl {d : D} {S : Sto} : (∃ b, d = .bl b ∧ asB d S = .ok b S) ∨ asB d S = .bad := by
  cases d <;> first | exact .inr rfl | exact .inl ⟨_, rfl, rfl⟩
theorem st_val {e : Ex} {a : Expr} (h : PE X a (tE Z W G e)) (he : ∀ whole, isTrue a X.env whole = (do let v ← whole; standAt a.pos; holding [v] (truthy v))) : PT X a (tT Z W G e) := by
  refine (pt_val h he).imp fun σ H Q hq => ?_
  refine (tG.bind (P := pV Z) (k := fun x _ S => asB x S) hq).wk fun b H' ⟨a, F1, ρ1, v1, S1, he, hs, p, q⟩ => ?_
  rcases asB_bl (d := a) (S := S1) with ⟨c, rfl, e⟩ | e
  · rw [e] at q
    cases p
    exact ⟨c, rfl, PostA.done (P := pEq) q hs rfl⟩
  · rw [e] at q; exact q.elim
theorem R.bind_assoc {r : R α} {f : α → Sto → R β} {g : β → Sto → R γ} : (r.bind f).bind g = r.bind fun a S => (f a S).bind g := by
  cases r <;> rfl

/-! ### operators -/
theorem opc_nox {f : Option Nat} {l : List D} {S S' : Sto} {c : Nat} {fs : List D} (e : opc G f l S = .ex c fs S') : False := by
  unfold opc at e
  split at e
  · rename_i f
    cases w : G.call f l S <;> rw [w] at e <;> cases e
  · cases e
theorem binop_nox {o : Bi} {x y : D} {S S' : Sto} {c : Nat} {fs : List D} (e : binop G o x y S = .ex c fs S') : False := by
  unfold binop at e
  split at e
  · exact opc_nox e
  · exact opc_nox e
  · exact opc_nox e
  · split at e <;> cases e
theorem se_bin {o : Bi} {a b : Ex} {x y : Expr} {pos} (ho : OpR X (binaryOp (opO o)) (rB Z G o)) (ha : PE X x (tE Z W G a)) (hb : PE X y (tE Z W G b)) : PE X (.BinOp x (opO o) y pos) (tE Z W G (.bin o a b)) := by
  refine (pe_op ho ha hb).imp fun σ H Q h => ?_
  have h' := tG.bind2 (f := ev G a) (g := ev G b) (k := fun x y _ S => binop G o x y S) (P := pV Z) (P' := pV Z) (fun a b F ρ H F1 ρ1 H1 S e s p => pV.ext e s p) (h.eq (fun v S => by rw [ev] <;> rfl))
  refine h'.wk fun x1 H1 h1 => tG.wk h1 fun y1 H2 ⟨d, d', F2, ρ2, v2, S2, he, hs, p1, p2, q⟩ => ⟨F2, ρ2, S2, d, d', hs, p1, p2, ?_⟩
  -- an operator's own callee lets nothing out
  cases e : binop G o d d' S2 with
  | ok r S' => rw [e] at q; exact q
  | bad => rw [e] at q; exact q
  | ex c fs S' =>
    exfalso
    exact binop_nox e
/-- a comparison's end, of any values, by the interpreter -/
def pB : Bool → V → Hp → List Addr → Hp → Prop := fun b x _ _ _ => x = .bl b
def rCG (Z : Ci) (G : Ga) (o : Cm) : R2 := fun x y H Q => ∃ F ρ S dx dy, StoR Z F ρ S H ∧ Rep Z F ρ dx x ∧ Rep Z F ρ dy y ∧ PostA Z W0 (cmpG G o dx dy S) pB F ρ [] H Q
theorem cmpG_nox {o : Cm} {x y : D} {S S' : Sto} {c : Nat} {fs : List D} : cmpG G o x y S ≠ .ex c fs S' := by
  unfold cmpG
  split
  · exact fun z => by cases z
  · split
    · split <;> exact fun z => by cases z
    · split
      · split <;> exact fun z => by cases z
      · exact fun z => by cases z
    · exact fun z => by cases z
theorem se_cmp {o : Cm} {a b : Ex} {x y : Expr} {pos} (ho : OpR X (compareOp (cmO o)) (rCG Z G o)) (ha : PE X x (tE Z W G a)) (hb : PE X y (tE Z W G b)) (hm : behindInMarks (cmO o) y = false) :
    PE X (.Compare x [cmO o] [y] pos) (tE Z W G (.cmp o a b)) ∧ PT X (.Compare x [cmO o] [y] pos) (tT Z W G (.cmp o a b)) := by
  have core : ∀ {δ : Type} {P2 : Bool → δ → Hp → List Addr → Hp → Prop} {σ : L2.St} {H : Hp} {Q : δ → Hp → Prop} {Q2 : VK}, tG Z W (fun v S => (ev G a v S).bind fun x S => (ev G b v S).bind fun y S => cmpG G o x y S) P2 σ H Q →
      (∀ (b : Bool) H' F ρ S, StoR Z F ρ S H' → PostA Z W (.ok b S) P2 F ρ σ H' Q → Q2 (.bl b) H') → tOp (rCG Z G o) (tE Z W G a) (tE Z W G b) σ H Q2 := by
    intro δ P2 σ H Q Q2 h fin
    have h' := tG.bind2 (f := ev G a) (g := ev G b) (k := fun x y _ S => cmpG G o x y S) (P := pV Z) (P' := pV Z) (fun a b F ρ H F1 ρ1 H1 S e s p => pV.ext e s p) h
    refine h'.wk fun x1 H1 h1 => tG.wk h1 fun y1 H2 ⟨d, d', F2, ρ2, v2, S2, he, hs, p1, p2, q⟩ => ⟨F2, ρ2, S2, d, d', hs, p1, p2, ?_⟩
    cases e : cmpG G o d d' S2 with
    | bad => rw [e] at q; exact q
    | ex c fs S' => exact absurd e cmpG_nox
    | ok r S' =>
      rw [e] at q
      intro w F' ρ' H' ex s p
      subst p
      exact fin r H' F' ρ' S' s (PostA.ext q ex)
  refine ⟨(pe_cmpR ho ha hb hm).imp fun σ H Q h => ?_, (pt_cmpR ho ha hb hm).imp fun σ H Q h => ?_⟩
  · have h0 : tG Z W (fun v S => ((ev G a v S).bind fun x S => (ev G b v S).bind fun y S => cmpG G o x y S).bind fun r S => .ok (.bl r) S) (pV Z) σ H Q := h.eq (fun v S => by rw [ev, R.bind_assoc]; congr 1; funext x S; rw [R.bind_assoc])
    have h1 := tG.bind (f := fun v S => (ev G a v S).bind fun x S => (ev G b v S).bind fun y S => cmpG G o x y S) (k := fun r _ S => R.ok (D.bl r) S) (P := pEq) h0
    exact core h1 fun b H' F ρ S hs q => by
      obtain ⟨a', F1, ρ1, v1, S1, he1, hs1, p1, q1⟩ := PostA.done (b := b) (P := pEq) q hs rfl
      obtain rfl : a' = b := p1
      exact PostA.done q1 hs1 .bl
  · have h0 : tG Z W (fun v S => (ev G a v S).bind fun x S => (ev G b v S).bind fun y S => cmpG G o x y S) pEq σ H Q := h.eq (fun v S => by
      rw [ev, R.bind_assoc]; congr 1; funext x S; rw [R.bind_assoc]; congr 1; funext y S; cases cmpG G o x y S <;> rfl)
    exact core h0 fun b H' F ρ S hs q => ⟨b, rfl, PostA.done (P := pEq) q hs rfl⟩
theorem se_not {a : Ex} {x : Expr} {pos} (ha : PE X x (tE Z W G a)) (ht : PT X x (tT Z W G a)) : PE X (.UnaryOp .Not x pos) (tE Z W G (.not a)) ∧ PT X (.UnaryOp .Not x pos) (tT Z W G (.not a)) := by
  refine ⟨(pe_not ha).imp fun σ H Q h => ?_, (pt_not ht).imp fun σ H Q h => ?_⟩
  · refine (tG.bind (P := pV Z) (k := fun x _ S => (asB x S).bind fun b S => .ok (.bl (!b)) S) (h.eq fun v S => by rw [ev])).wk fun b H' ⟨a, F1, ρ1, v1, S1, he, hs, p, q⟩ => ?_
    rcases asB_bl (d := a) (S := S1) with ⟨c, rfl, e⟩ | e
    · rw [e] at q; cases p; exact ⟨c, rfl, PostA.done q hs .bl⟩
    · rw [e] at q; exact q.elim
  · refine (tG.bind (f := fun v S => (ev G a v S).bind asB) (P := pEq) (k := fun b _ S => .ok (!b) S) (h.eq fun v S => by
      rw [ev, R.bind_assoc, R.bind_assoc]; congr 1; funext x S; cases asB x S <;> rfl)).wk fun b H' ⟨a, F1, ρ1, v1, S1, he, hs, p, q⟩ => ?_
    obtain rfl : a = b := p
    exact PostA.done (P := pEq) q hs rfl
end
end Mi

set_option Elab.async false
set_option linter.all false
set_option maxRecDepth 100000
set_option maxHeartbeats 4000000
/-! Mi, part 7: chains, and, or, operands, places, slices. -/
namespace Mi
open PySem PySem.Spec PyProof.Rows L2
section
variable {Z : Ci} {W : WX} {G : Ga} {X : Cx} {α β γ δ : Type}
/-! ### chains -/
theorem se_chn {o p : Cm} {a b c : Ex} {x y z : Expr} {pos} (ho : OpR X (compareOp (cmO o)) (rC Z o)) (hp : OpR X (compareOp (cmO p)) (rC Z p)) (ha : PE X x (tE Z W G a)) (hb : PE X y (tE Z W G b)) (hc : PE X z (tE Z W G c))
    (hm : lastMarks [cmO o, cmO p] [y, z] = false) : PE X (.Compare x [cmO o, cmO p] [y, z] pos) (tE Z W G (.chn o p a b c)) ∧ PT X (.Compare x [cmO o, cmO p] [y, z] pos) (tT Z W G (.chn o p a b c)) := by
  have core : ∀ {σ : L2.St} {H : Hp} {Q : VK}, tE Z W G (.chn o p a b c) σ H Q → tChain (rC Z o) (rC Z p) (tE Z W G a) (tE Z W G b) (tE Z W G c) σ H Q := by
    intro σ H Q h
    have h' := tG.bind2 (f := ev G a) (g := ev G b) (k := fun x y v S => (cmpD o x y S).bind fun r S => if r = true then (ev G c v S).bind fun z S => (cmpD p y z S).bind fun r S => .ok (D.bl r) S else .ok (D.bl false) S) (P := pV Z) (P' := pV Z)
      (fun a b F ρ H F1 ρ1 H1 S e s p => pV.ext e s p) (h.eq fun v S => by rw [ev])
    refine h'.wk fun x1 H1 h1 => tG.wk h1 fun y1 H2 ⟨d, d', F2, ρ2, v2, S2, he, hs, p1, p2, q⟩ => ?_
    unfold cmpD at q
    cases e : cmpP o d d' with
    | none => rw [e] at q; exact q.elim
    | some r =>
      rw [e] at q
      refine ⟨F2, ρ2, S2, d, d', r, hs, p1, p2, e, r, rfl, ?_⟩
      cases r with
      | false => exact PostA.done (P := pV Z) q hs .bl
      | true =>
        refine ⟨F2, ρ2, v2, S2, he, hs, ?_⟩
        have q' : PostA Z W ((ev G c v2 S2).bind fun z S => (match cmpP p d' z with | some b => R.ok b S | none => R.bad).bind fun r S => .ok (D.bl r) S) (pV Z) F2 ρ2 σ H2 Q := q
        refine (PostA.bind (P := pV Z) q').mono fun dz z1 F3 ρ3 H3 e3 p3 k3 => ?_
        obtain ⟨dz', F4, ρ4, S4, e4, s4, p4, q4⟩ := k3 z1 p3
        cases e5 : cmpP p d' dz' with
        | none => rw [e5] at q4; exact q4.elim
        | some r2 => rw [e5] at q4; exact ⟨F4, ρ4, S4, d', dz', r2, s4, e4.rep p2, p4, e5, PostA.done (P := pV Z) q4 s4 .bl⟩
  refine ⟨(pe_chain ho hp ha hb hc hm).imp fun σ H Q h => core h, (pt_chain ho hp ha hb hc hm).imp fun σ H Q h => ?_⟩
  -- as a test: the value is a bool
  refine core (Q := fun x H' => ∃ k, x = .bl k ∧ Q k H') ?_
  obtain ⟨F, ρ, v, S, he, hs, hp⟩ := h
  exact ⟨F, ρ, v, S, he, hs, (PostA.bind (P := pV Z) hp).mono fun a b F' ρ' H' _ p k => by
    obtain ⟨a', F1, ρ1, S1, e1, s1, p1, q1⟩ := k b p
    rcases asB_bl (d := a') (S := S1) with ⟨r, rfl, e⟩ | e
    · rw [e] at q1; cases p1; exact ⟨r, rfl, PostA.done (P := pEq) q1 s1 rfl⟩
    · rw [e] at q1; exact q1.elim⟩

/-! ### and, or -/
/-- tests of a row of operands -/
def AllPT (X : Cx) (Z : Ci) (W : WX) (G : Ga) : Exs → List Expr → Prop
  | .nil, [] => True
  | .cons e es, a :: as => (PE X a (tE Z W G e) ∧ PT X a (tT Z W G e)) ∧ AllPT X Z W G es as
  | _, _ => False
theorem tT_bind {e : Ex} {k : Bool → Env → Sto → R Bool} {σ : L2.St} {H : Hp} {Q : Bool → Hp → Prop} (h : tG Z W (fun v S => (ev G e v S).bind fun x S => (asB x S).bind fun b S => k b v S) pEq σ H Q) :
    tT Z W G e σ H fun b H1 => ∃ F1 ρ1 v1 S1, EnvR Z F1 ρ1 v1 σ H1 ∧ StoR Z F1 ρ1 S1 H1 ∧ PostA Z W (k b v1 S1) pEq F1 ρ1 σ H1 Q := by
  refine (tG.bind (f := fun v S => (ev G e v S).bind asB) (P := pEq) (k := fun b v S => k b v S) (h.eq fun v S => by rw [R.bind_assoc])).wk fun b H1 ⟨a, F1, ρ1, v1, S1, he, hs, p, q⟩ => ?_
  obtain rfl : a = b := p
  exact ⟨F1, ρ1, v1, S1, he, hs, q⟩
theorem pw_ands {pos} : ∀ {es : Exs} {as : List Expr}, AllPT X Z W G es as → as ≠ [] → PW X (.BoolOp .And as pos) (tB2 Z W (evAnd G es))
  | .nil, [], _, h => absurd rfl h
  | .nil, _ :: _, h, _ => h.elim
  | .cons _ _, [], h, _ => h.elim
  | .cons e .nil, [a], h, _ => (pw_and1 h.1.2).imp fun σ H Q hq => (tT_bind (k := fun b v S => if b = true then evAnd G .nil v S else .ok false S) (hq.eq fun v S => by rw [evAnd])).wk fun b H1 ⟨F1, ρ1, v1, S1, he, hs, q⟩ => by
      cases b with
      | true => exact PostA.done (P := pEq) (a := true) (by simpa [evAnd] using q) hs rfl
      | false => exact PostA.done (P := pEq) (a := false) (by simpa using q) hs rfl
  | .cons e .nil, _ :: _ :: _, h, _ => h.2.elim
  | .cons e (.cons e2 es), [_], h, _ => h.2.elim
  | .cons e (.cons e2 es), a :: b :: as, h, _ => (pw_and h.1.2 (pw_ands h.2 (List.cons_ne_nil _ _))).imp fun σ H Q hq => (tT_bind (k := fun b v S => if b = true then evAnd G (.cons e2 es) v S else .ok false S) (hq.eq fun v S => by rw [evAnd])).wk fun b H1 ⟨F1, ρ1, v1, S1, he, hs, q⟩ => by
      cases b with
      | true => exact ⟨F1, ρ1, v1, S1, he, hs, by simpa using q⟩
      | false => exact PostA.done (P := pEq) (a := false) (by simpa using q) hs rfl
theorem pw_ors {pos} : ∀ {es : Exs} {as : List Expr}, AllPT X Z W G es as → as ≠ [] → PW X (.BoolOp .Or as pos) (tB2 Z W (evOr G es))
  | .nil, [], _, h => absurd rfl h
  | .nil, _ :: _, h, _ => h.elim
  | .cons _ _, [], h, _ => h.elim
  | .cons e .nil, [a], h, _ => (pw_or1 h.1.2).imp fun σ H Q hq => (tT_bind (k := fun b v S => if b = true then .ok true S else evOr G .nil v S) (hq.eq fun v S => by rw [evOr])).wk fun b H1 ⟨F1, ρ1, v1, S1, he, hs, q⟩ => by
      cases b with
      | true => exact PostA.done (P := pEq) (a := true) (by simpa using q) hs rfl
      | false => exact PostA.done (P := pEq) (a := false) (by simpa [evOr] using q) hs rfl
  | .cons e .nil, _ :: _ :: _, h, _ => h.2.elim
  | .cons e (.cons e2 es), [_], h, _ => h.2.elim
  | .cons e (.cons e2 es), a :: b :: as, h, _ => (pw_or h.1.2 (pw_ors h.2 (List.cons_ne_nil _ _))).imp fun σ H Q hq => (tT_bind (k := fun b v S => if b = true then .ok true S else evOr G (.cons e2 es) v S) (hq.eq fun v S => by rw [evOr])).wk fun b H1 ⟨F1, ρ1, v1, S1, he, hs, q⟩ => by
      cases b with
      | false => exact ⟨F1, ρ1, v1, S1, he, hs, by simpa using q⟩
      | true => exact PostA.done (P := pEq) (a := true) (by simpa using q) hs rfl
/-- as values -/
def tBv (Z : Ci) (W : WX) (f : Env → Sto → R Bool) : TE := fun σ H Q => tG Z W f pEq σ H fun b H' => Q (.bl b) H'
theorem tE_bind {e : Ex} {k : Bool → Env → Sto → R Bool} {σ : L2.St} {H : Hp} {Q : Bool → Hp → Prop} (h : tG Z W (fun v S => (ev G e v S).bind fun x S => (asB x S).bind fun b S => k b v S) pEq σ H Q) :
    tE Z W G e σ H fun x H1 => ∃ b, x = .bl b ∧ ∃ F1 ρ1 v1 S1, EnvR Z F1 ρ1 v1 σ H1 ∧ StoR Z F1 ρ1 S1 H1 ∧ PostA Z W (k b v1 S1) pEq F1 ρ1 σ H1 Q := by
  refine (tG.bind (P := pV Z) (k := fun x v S => (asB x S).bind fun b S => k b v S) h).wk fun x H1 ⟨d, F1, ρ1, v1, S1, he, hs, p, q⟩ => ?_
  rcases asB_bl (d := d) (S := S1) with ⟨r, rfl, e⟩ | e
  · rw [e] at q; cases p; exact ⟨r, rfl, F1, ρ1, v1, S1, he, hs, q⟩
  · rw [e] at q; exact q.elim
theorem pe_ands {pos} : ∀ {es : Exs} {as : List Expr}, AllPT X Z W G es as → as ≠ [] → PE X (.BoolOp .And as pos) (tBv Z W (evAnd G es))
  | .nil, [], _, h => absurd rfl h
  | .nil, _ :: _, h, _ => h.elim
  | .cons _ _, [], h, _ => h.elim
  | .cons e .nil, [a], h, _ => (pe_one h.1.1).imp fun σ H Q hq => (tE_bind (k := fun b v S => if b = true then evAnd G .nil v S else .ok false S) (tG.eq hq fun v S => by rw [evAnd])).wk fun x H1 ⟨b, ex, F1, ρ1, v1, S1, he, hs, q⟩ => by
      subst ex
      cases b with
      | true => exact PostA.done (P := pEq) (a := true) (b := true) (by simpa [evAnd] using q) hs rfl
      | false => exact PostA.done (P := pEq) (a := false) (b := false) (by simpa using q) hs rfl
  | .cons e .nil, _ :: _ :: _, h, _ => h.2.elim
  | .cons e (.cons e2 es), [_], h, _ => h.2.elim
  | .cons e (.cons e2 es), a :: b :: as, h, _ => (pe_and h.1.1 (pe_ands h.2 (List.cons_ne_nil _ _))).imp fun σ H Q hq => (tE_bind (k := fun b v S => if b = true then evAnd G (.cons e2 es) v S else .ok false S) (tG.eq hq fun v S => by rw [evAnd])).wk fun x H1 ⟨b, ex, F1, ρ1, v1, S1, he, hs, q⟩ => by
      subst ex
      refine ⟨b, rfl, ?_⟩
      cases b with
      | true => exact ⟨F1, ρ1, v1, S1, he, hs, by simpa using q⟩
      | false => exact PostA.done (P := pEq) (a := false) (b := false) (by simpa using q) hs rfl
theorem pe_ors {pos} : ∀ {es : Exs} {as : List Expr}, AllPT X Z W G es as → as ≠ [] → PE X (.BoolOp .Or as pos) (tBv Z W (evOr G es))
  | .nil, [], _, h => absurd rfl h
  | .nil, _ :: _, h, _ => h.elim
  | .cons _ _, [], h, _ => h.elim
  | .cons e .nil, [a], h, _ => (pe_one h.1.1).imp fun σ H Q hq => (tE_bind (k := fun b v S => if b = true then .ok true S else evOr G .nil v S) (tG.eq hq fun v S => by rw [evOr])).wk fun x H1 ⟨b, ex, F1, ρ1, v1, S1, he, hs, q⟩ => by
      subst ex
      cases b with
      | true => exact PostA.done (P := pEq) (a := true) (b := true) (by simpa using q) hs rfl
      | false => exact PostA.done (P := pEq) (a := false) (b := false) (by simpa [evOr] using q) hs rfl
  | .cons e .nil, _ :: _ :: _, h, _ => h.2.elim
  | .cons e (.cons e2 es), [_], h, _ => h.2.elim
  | .cons e (.cons e2 es), a :: b :: as, h, _ => (pe_or h.1.1 (pe_ors h.2 (List.cons_ne_nil _ _))).imp fun σ H Q hq => (tE_bind (k := fun b v S => if b = true then .ok true S else evOr G (.cons e2 es) v S) (tG.eq hq fun v S => by rw [evOr])).wk fun x H1 ⟨b, ex, F1, ρ1, v1, S1, he, hs, q⟩ => by
      subst ex
      refine ⟨b, rfl, ?_⟩
      cases b with
      | false => exact ⟨F1, ρ1, v1, S1, he, hs, by simpa using q⟩
      | true => exact PostA.done (P := pEq) (a := true) (b := true) (by simpa using q) hs rfl
theorem bl_val {f : Env → Sto → R Bool} {σ : L2.St} {H : Hp} {Q : VK} (h : tG Z W (fun v S => (f v S).bind fun b S => .ok (D.bl b) S) (pV Z) σ H Q) : tBv Z W f σ H Q :=
  (tG.bind (P := pEq) (k := fun b _ S => R.ok (D.bl b) S) h).wk fun b H1 ⟨a, F1, ρ1, v1, S1, he, hs, p, q⟩ => by
    obtain rfl : a = b := p
    exact PostA.done (P := pV Z) q hs .bl
theorem se_and {es : Exs} {as : List Expr} {pos} (h : AllPT X Z W G es as) (h0 : as ≠ []) : PE X (.BoolOp .And as pos) (tE Z W G (.and es)) ∧ PT X (.BoolOp .And as pos) (tT Z W G (.and es)) :=
  ⟨(pe_ands h h0).imp fun σ H Q q => bl_val (q.eq fun v S => by rw [ev]), (pw_ands h h0).pt.imp fun σ H Q q => q.eq fun v S => by
    rw [ev, R.bind_assoc]; cases evAnd G es v S <;> rfl⟩
theorem se_or {es : Exs} {as : List Expr} {pos} (h : AllPT X Z W G es as) (h0 : as ≠ []) : PE X (.BoolOp .Or as pos) (tE Z W G (.or es)) ∧ PT X (.BoolOp .Or as pos) (tT Z W G (.or es)) :=
  ⟨(pe_ors h h0).imp fun σ H Q q => bl_val (q.eq fun v S => by rw [ev]), (pw_ors h h0).pt.imp fun σ H Q q => q.eq fun v S => by
    rw [ev, R.bind_assoc]; cases evOr G es v S <;> rfl⟩
theorem se_ife {c a b : Ex} {x y z : Expr} {pos} (hc : PT X x (tT Z W G c)) (ha : PE X y (tE Z W G a)) (hb : PE X z (tE Z W G b)) : PE X (.IfExp x y z pos) (tE Z W G (.ife c a b)) := by
  refine (pe_ifExp hc ha hb).imp fun σ H Q h => ?_
  refine (tG.bind (f := fun v S => (ev G c v S).bind asB) (P := pEq) (k := fun r v S => if r = true then ev G a v S else ev G b v S) (h.eq fun v S => by rw [ev, R.bind_assoc])).wk fun r H1 ⟨r', F1, ρ1, v1, S1, he, hs, p, q⟩ => ?_
  obtain rfl : r' = r := p
  cases r' with
  | true => exact ⟨F1, ρ1, v1, S1, he, hs, by simpa using q⟩
  | false => exact ⟨F1, ρ1, v1, S1, he, hs, by simpa using q⟩
theorem se_isN {a : Ex} {x : Expr} {j pos' pos} (ha : PE X x (tE Z W G a)) : PE X (.Compare x [.Is] [.Constant .none j pos'] pos) (tE Z W G (.isN a)) := by
  refine (pe_cmp (pc_isN (j := j) (pos' := pos') ha)).imp fun σ H Q h => ?_
  refine (tG.bind (P := pV Z) (k := fun x _ S => R.ok (D.bl (match x with | .non => true | _ => false)) S) (h.eq fun v S => by rw [ev] <;> rfl)).wk fun x1 H1 ⟨d, F1, ρ1, v1, S1, he, hs, p, q⟩ => ?_
  cases p <;> exact PostA.done (P := pV Z) q hs .bl
theorem se_isNN {a : Ex} {x : Expr} {j pos' pos} (ha : PE X x (tE Z W G a)) : PE X (.Compare x [.IsNot] [.Constant .none j pos'] pos) (tE Z W G (.isNN a)) := by
  refine (pe_cmp (pc_notN (j := j) (pos' := pos') ha)).imp fun σ H Q h => ?_
  refine (tG.bind (P := pV Z) (k := fun x _ S => R.ok (D.bl (match x with | .non => false | _ => true)) S) (h.eq fun v S => by rw [ev] <;> rfl)).wk fun x1 H1 ⟨d, F1, ρ1, v1, S1, he, hs, p, q⟩ => ?_
  cases p <;> exact PostA.done (P := pV Z) q hs .bl
end
end Mi

set_option Elab.async false
set_option linter.all false
set_option maxRecDepth 100000
set_option maxHeartbeats 4000000
/-! Mi, part 8: calls whose exceptions are wished for at the caller's slots. -/
namespace Mi
open PySem PySem.Spec PyProof.Rows L2
section
variable {X : Cx} {CT : CXT} {k : Nat} {f C : Addr} {fd : FuncData} {ps : List Str} {sp : Sp} {dvs : List V} {ds : List Value} {E : L2.St → XK} {x m : Str} {p pos apos : Pos} {e o : Expr} {es : List Expr} {ta : TE} {t : TA}
theorem call0S (F : FnOk X.prog X.w X.K X.mg X.base CT k f fd ps sp) (hr : Room k X.A) (hg : Gl X x) (hm : X.mg x = some (.ref f)) (hk : PySem.W.keepIn X.K (.ref f) = true) (hb : Binds X.K fd ps ds) (hd : Vals dvs ds) (hx : ∀ σ, PassesAt CT X σ (E σ))
    (hdb : (x == ("__debug__" : Str)) = false) : PE X (.Call (.Name x p) [] [] pos) (fun σ H Q => sp dvs H Q (E σ)) :=
  ⟨fun pins s σ H Q I h => wpAny_Call_Name_kw (ld_glob I hg hm (PySem.W.callWith_K0 I.kIn hk (run_fnSD (us := []) (vs := []) F hr hb hd (hx σ) I .nil h)) hdb)⟩
/-- o.m(e, ..) -/
def tMthS (C : Addr) (m : Str) (sp : Sp) (dvs : List V) (E : L2.St → XK) (ta : TE) (t : TA) : TE := fun σ H Q => ta σ H fun x H1 => ∃ a dx fs, x = .ref a ∧ H1 a = some (.ins C dx fs) ∧ fs.lookup m = none ∧ t σ H1 fun vs H2 => sp (x :: (vs ++ dvs)) H2 Q (E σ)
theorem methS {pl : Sem Bool} (he : PE X o ta) (c : Cls X.K C) (hm : Meth X.K C m f) (F : FnOk X.prog X.w X.K X.mg X.base CT k f fd ps sp) (hr : Room k X.A) (hb : Binds X.K fd ps ds) (hd : Vals dvs ds) (hx : ∀ σ, PassesAt CT X σ (E σ)) (ha : PA X (e :: es) t)
    (hst : starEach (e :: es) X.env = (false, eval e X.env) :: starEach es X.env) (hpl : (backTo pos (starEach es X.env)).any (·.1) = false)
    (ht : eval (.Call (.Attribute o m apos) (e :: es) [] pos) X.env = (do
      let ov ← eval o X.env
      standAt apos.atName
      let (g, first) ← holding [ov] (getMethod ov m pl)
      callWith pos g first (backTo pos (starEach (e :: es) X.env)) (backToKw pos (keywordEach [] X.env)))) :
    PE X (.Call (.Attribute o m apos) (e :: es) [] pos) (tMthS C m sp dvs E ta t) := by
  refine ⟨fun pins s σ H Q I h => PySem.W.methodCall_KW (pl := pl) (thn (he.run pins s σ H _ I h) fun u s1 hh => ?_) ht⟩
  obtain ⟨y, H1, I1, rx, a, dx, fs, rfl, ea, l, q⟩ := hh
  cases rx
  refine getmeth_ok I1 ea c hm l (PySem.W.callWith_K (first := [.ref a]) (h₀ := X.base) I.ok.mod.kin hm.kp (thn (ha.run pos pins s1 σ H1 _ I1 q) fun us s2 h2 => ?_) hst hpl)
  obtain ⟨vs, H2, I2, r, q2⟩ := h2
  exact ⟨I2.kIn, run_fnSD (us := .ref a :: us) (vs := .ref a :: vs) F hr hb hd (hx σ) I2 (.cons rfl r) q2⟩
theorem methS0 {pl : Sem Bool} (he : PE X o ta) (c : Cls X.K C) (hm : Meth X.K C m f) (F : FnOk X.prog X.w X.K X.mg X.base CT k f fd ps sp) (hr : Room k X.A) (hb : Binds X.K fd ps ds) (hd : Vals dvs ds) (hx : ∀ σ, PassesAt CT X σ (E σ))
    (ht : eval (.Call (.Attribute o m apos) [] [] pos) X.env = (do
      let ov ← eval o X.env
      standAt apos.atName
      let (g, first) ← holding [ov] (getMethod ov m pl)
      callWith pos g first (backTo pos (starEach [] X.env)) (backToKw pos (keywordEach [] X.env)))) :
    PE X (.Call (.Attribute o m apos) [] [] pos) (tMthS C m sp dvs E ta tNil) := by
  refine ⟨fun pins s σ H Q I h => PySem.W.methodCall_KW (pl := pl) (thn (he.run pins s σ H _ I h) fun u s1 hh => ?_) ht⟩
  obtain ⟨y, H1, I1, rx, a, dx, fs, rfl, ea, l, q⟩ := hh
  cases rx
  exact getmeth_ok I1 ea c hm l (PySem.W.callWith_K0 (first := [.ref a]) I1.kIn hm.kp (run_fnSD (us := [.ref a]) (vs := [.ref a]) F hr hb hd (hx σ) I1 (.cons rfl .nil) q))
/-- C(e, ..) -/
def tMkS (C : Addr) (sp : Sp) (dvs : List V) (E : L2.St → XK) (t : TA) : TE := fun σ H Q => t σ H fun vs H1 => ∀ x dx, H1 x = none → H1 dx = none → dx ≠ x →
  sp (.ref x :: (vs ++ dvs)) (upd (upd H1 dx (.own x)) x (.ins C dx [])) (fun v H2 => v = .non ∧ Q (.ref x) H2) (E σ)
theorem run_mkS {pins : List (Addr × Obj)} {σ : L2.St} {H : Hp} {s : Shared} {Q : VK} {us : List Value} {vs : List V} (M : Mk X.K C f) (F : FnOk X.prog X.w X.K X.mg X.base CT k f fd ps sp) (hr : Room (k + 1) X.A) (hb : Binds X.K fd ps ds) (hd : Vals dvs ds)
    (hx : PassesAt CT X σ (E σ)) (I : Inv X pins σ H s) (r : Vals vs us)
    (h : ∀ x dx, H x = none → H dx = none → dx ≠ x → sp (.ref x :: (vs ++ dvs)) (upd (upd H dx (.own x)) x (.ins C dx [])) (fun v H2 => v = .non ∧ Q (.ref x) H2) (E σ)) :
    wpAny (model X.prog X.w) X.A (call (.ref C) us) (EP X pins σ Q) X.xe s := by
  have g := h (s.heap.objs.size + 1) s.heap.objs.size (I.hok.fresh (Nat.le_succ _)) (I.hok.fresh (Nat.le_refl _)) (Nat.ne_of_lt (Nat.lt_succ_self _))
  have J := Inv.made (C := C) I
  have rr : Vals (V.ref (s.heap.objs.size + 1) :: (vs ++ dvs)) (Value.ref (s.heap.objs.size + 1) :: (us ++ ds)) := .cons rfl (r.append hd)
  have hl : (Value.ref (s.heap.objs.size + 1) :: us ++ ds).length = ps.length := rr.length.symm.trans (F.len _ _ _ _ g)
  have run := F.run _ X.stack _ _ ⟨Value.ref (s.heap.objs.size + 1) :: us, []⟩ (Value.ref (s.heap.objs.size + 1) :: (us ++ ds)) _ _ (E σ) (hr.make C us []) (J.env0.make C us []) (hb _ (Value.ref (s.heap.objs.size + 1) :: us) J.kIn hl) rr g
  refine wpAny_call (make_map (f := f) I.kIn M.makes M.init (beq_iff_eq.mp M.fn) (codeAny_mono run fun b s' z => ?_))
  match b, z with
  | .error e, z => exact hx pins _ _ e s' J z
  | .ok (.ret u), z =>
    obtain ⟨v, H', J2, rv, ev, q⟩ := J.after z
    subst ev
    exact ⟨rv, ⟨V.ref (s.heap.objs.size + 1), H', J2, rfl, q⟩⟩
  | .ok .next, z => exact z.elim
  | .ok .brk, z => exact z.elim
  | .ok .cont, z => exact z.elim
theorem mkS (M : Mk X.K C f) (F : FnOk X.prog X.w X.K X.mg X.base CT k f fd ps sp) (hr : Room (k + 1) X.A) (hg : Gl X x) (hm : X.mg x = some (.ref C)) (hb : Binds X.K fd ps ds) (hd : Vals dvs ds) (hx : ∀ σ, PassesAt CT X σ (E σ))
    (ha : PA X (e :: es) t) (hdb : (x == ("__debug__" : Str)) = false) (he : starEach (e :: es) X.env = (false, eval e X.env) :: starEach es X.env) (hpl : (backTo pos (starEach es X.env)).any (·.1) = false) :
    PE X (.Call (.Name x p) (e :: es) [] pos) (tMkS C sp dvs E t) :=
  ⟨fun pins s σ H Q I h => wpAny_Call_Name_kw (ld_glob I hg hm (PySem.W.callWith_K (h₀ := X.base) I.ok.mod.kin M.kp (thn (ha.run pos pins s σ H _ I h) fun us s1 ⟨vs, H1, I1, r, q⟩ => ⟨I1.kIn, run_mkS M F hr hb hd (hx σ) I1 r q⟩) he hpl) hdb)⟩
theorem mkS0 (M : Mk X.K C f) (F : FnOk X.prog X.w X.K X.mg X.base CT k f fd ps sp) (hr : Room (k + 1) X.A) (hg : Gl X x) (hm : X.mg x = some (.ref C)) (hb : Binds X.K fd ps ds) (hd : Vals dvs ds) (hx : ∀ σ, PassesAt CT X σ (E σ))
    (hdb : (x == ("__debug__" : Str)) = false) : PE X (.Call (.Name x p) [] [] pos) (tMkS C sp dvs E tNil) :=
  ⟨fun pins s σ H Q I h => wpAny_Call_Name_kw (ld_glob I hg hm (PySem.W.callWith_K0 I.kIn M.kp (run_mkS (us := []) M F hr hb hd (hx σ) I .nil h)) hdb)⟩
end
end Mi

set_option Elab.async false
set_option linter.all false
set_option maxRecDepth 100000
set_option maxHeartbeats 4000000
/-! Mi, part 9: operands, places, slices, fields, calls. -/
namespace Mi
open PySem PySem.Spec PyProof.Rows L2
section
variable {Z : Ci} {W : WX} {G : Ga} {X : Cx} {α β γ δ : Type}
abbrev tL (Z : Ci) (W : WX) (G : Ga) (s : Sq) : TE := tG Z W (evl G s) (pL Z)
abbrev tK (Z : Ci) (W : WX) (G : Ga) (s : Sq) : TE := tG Z W (evk G s) (pK Z)
/-- an operand, whichever way it is read -/
def OkQ (X : Cx) (Z : Ci) (W : WX) (G : Ga) (s : Sq) (a : Expr) : Prop := PE X a (tQ Z W G s) ∧ PE X a (tL Z W G s) ∧ PE X a (tK Z W G s)
theorem sq_own {i : Nat} {x : Str} {pos : Pos} (hN : X.N[i]? = some x) (hv : Vis X.env.scope x) (hd : (x == ("__debug__" : Str)) = false) (hcd : (x == ("__classdict__" : Str)) = false) : OkQ X Z W G (.own i) (.Name x pos) := by
  have core : ∀ {α : Type} {f : Env → Sto → R α} {P : α → V → Hp → List Addr → Hp → Prop} {k : List D → α}, (∀ v S, f v S = match getN v i with | some (.ol l) => R.ok (k l) S | _ => .bad) →
      (∀ l a vs F ρ H, H a = some (.lst vs) → Reps Z F ρ l vs → P (k l) (.ref a) F ρ H) → PE X (.Name x pos) (tG Z W f P) := by
    intro α f P k e hP
    refine (pe_var (i := i) hN hv hd hcd).imp ?_
    rintro σ H Q ⟨F, ρ, v, S, he, hs, hp⟩
    rw [e] at hp
    cases q : getN v i with
    | none => rw [q] at hp; exact hp.elim
    | some s =>
      rw [q] at hp
      cases s with
      | ol l =>
        obtain ⟨o, ho, a, vs, rfl, h1, h2, r⟩ := he.get q
        exact ⟨_, ho, PostA.done hp hs (hP l a vs F ρ H h1 r)⟩
      | _ => exact hp.elim
  exact ⟨core (k := id) (fun v S => by rw [evq] <;> rfl) fun l a vs F ρ H h r => ⟨a, vs, rfl, .inl (.inl h), r⟩, core (k := id) (fun v S => by rw [evl] <;> rfl) fun l a vs F ρ H h r => ⟨a, vs, rfl, .inl h, r⟩,
    core (k := D.lst) (fun v S => by rw [evk] <;> rfl) fun l a vs F ρ H h r => .inr ⟨l, a, vs, rfl, rfl, .inl h, r⟩⟩
theorem sq_ex {e : Ex} {a : Expr} (h : PE X a (tE Z W G e)) : OkQ X Z W G (.ex e) a := by
  refine ⟨h.imp fun σ H Q q => ?_, h.imp fun σ H Q q => ?_, h.imp fun σ H Q q => ?_⟩
  · refine tG.map (P := pV Z) (k := fun x S => match x with | .lst l => R.ok l S | .tup l => .ok l S | _ => .bad) (q.eq fun v S => by rw [evq] <;> rfl) fun d b F ρ H S hs p => ?_
    cases p with
    | lst h1 r => exact .inl ⟨_, rfl, _, _, rfl, .inl (rdM hs.le h1), r⟩
    | tup h1 r => exact .inl ⟨_, rfl, _, _, rfl, .inr h1, r⟩
    | _ => exact .inr rfl
  · refine tG.map (P := pV Z) (k := fun x S => match x with | .lst l => R.ok l S | _ => .bad) (q.eq fun v S => by rw [evl] <;> rfl) fun d b F ρ H S hs p => ?_
    cases p with
    | lst h1 r => exact .inl ⟨_, rfl, _, _, rfl, rdM hs.le h1, r⟩
    | _ => exact .inr rfl
  · obtain ⟨F, ρ, v, S, he, hs, hp⟩ := q
    exact ⟨F, ρ, v, S, he, hs, PostA.mono (P := pK Z) (by rw [evk] at hp; exact hp) fun a b F' ρ' H' _ p k => k b (.inl p)⟩
/-- one argument -/
theorem pa_one {a : Expr} {t : TE} (h : PE X a t) (hs : starEach [a] X.env = [(false, eval a X.env)]) : PA X [a] (fun σ H Q => t σ H fun x H1 => Q [x] H1) := pa_cons h pa_nil (by rw [hs]; rfl)
theorem pa_two {a b : Expr} {t u : TE} (h : PE X a t) (h' : PE X b u) (hs : starEach [a, b] X.env = (false, eval a X.env) :: starEach [b] X.env) (hs' : starEach [b] X.env = [(false, eval b X.env)]) :
    PA X [a, b] (fun σ H Q => t σ H fun x H1 => u σ H1 fun y H2 => Q [x, y] H2) := pa_cons h (pa_one h' hs') hs

/-! ### places -/
theorem se_idx {s : Sq} {i : Ex} {a b : Expr} {pos} (hK : X.K = Z.K) (ha : OkQ X Z W G s a) (hb : PE X b (tE Z W G i)) (hp : PlainIx b) : PE X (.Subscript a b pos) (tE Z W G (.idx s i)) := by
  refine (pe_ix (ix_list.or ix_tup) ha.1 hb hp).imp fun σ H Q h => ?_
  have h' := tG.bind2 (f := evq G s) (g := ev G i) (k := fun l k _ S => match k with | .int j => (match atI l j with | some d => R.ok d S | none => .bad) | _ => .bad) (P := pQ Z) (P' := pV Z)
    (fun a b F ρ H F1 ρ1 H1 S e s p => pQ.ext e s p) (h.eq fun v S => by rw [ev] <;> rfl)
  refine h'.wk fun x1 H1 h1 => tG.wk h1 fun y1 H2 ⟨l, d, F2, ρ2, v2, S2, he, hs, p1, p2, q⟩ => ?_
  cases p2 with
  | @int j =>
    cases e : atI l j with
    | none => simp only [e] at q; exact q.elim
    | some d =>
      simp only [e] at q
      obtain ⟨c, vs, rfl, hq, r⟩ := p1
      have hat : ∃ w, L2.atI vs j = some w ∧ Rep Z F2 ρ2 d w := by
        unfold atI at e
        unfold L2.atI
        rw [← r.len]
        cases e2 : ixN l.length j with
        | none => rw [e2] at e; cases e
        | some n =>
          rw [e2] at e
          obtain ⟨w, hw, rw'⟩ := r.get (n := n) (d := d) e
          exact ⟨w, by rw [show L2.ixN l.length j = some n from e2]; exact hw, rw'⟩
      obtain ⟨w, hw, rw'⟩ := hat
      rcases hq with hq | hq
      · exact .inl ⟨c, vs, j, w, rfl, rfl, .inl hq, hw, PostA.done q hs rw'⟩
      · exact .inr ⟨c, vs, j, w, rfl, rfl, by rw [hK]; exact seqT hs.le hq, hw, PostA.done q hs rw'⟩
  | _ => exact q.elim
/-- a slice's part -/
def OkO (X : Cx) (Z : Ci) (W : WX) (G : Ga) : Exo → Option Expr → Prop
  | .no, none => True
  | .yes e, some a => PE X a (tE Z W G e)
  | _, _ => False
theorem po_of {o : Exo} {a : Option Expr} (h : OkO X Z W G o a) : PO X a (tG Z W (evo G o) pEq) := by
  cases o with
  | no =>
    cases a with
    | none => exact ⟨fun pins s σ H Q I ⟨F, ρ, v, S, he, hs, hp⟩ => po_none.run pins s σ H Q I (PostA.done (P := pEq) (W := W) (σ := σ) (by rw [evo] at hp; exact hp) hs rfl)⟩
    | some a => exact h.elim
  | yes e =>
    cases a with
    | none => exact h.elim
    | some a =>
      refine ⟨fun pins s σ H Q I q => (po_some h).run pins s σ H Q I ?_⟩
      refine (tG.bind (P := pV Z) (k := fun x _ S => match x with | .int i => R.ok (some i) S | _ => .bad) (q.eq fun v S => by rw [evo] <;> rfl)).wk fun x H1 ⟨d, F1, ρ1, v1, S1, he, hs, p, q⟩ => ?_
      cases p with
      | int => exact ⟨_, rfl, PostA.done (P := pEq) q hs rfl⟩
      | _ => exact q.elim
theorem Reps.cutR {F : Hp} {ρ : List Addr} {l : List D} {vs : List V} (h : Reps Z F ρ l vs) (a b : Option Int) : Reps Z F ρ (cut l a b) (cutV vs a b) := by
  have e : ∀ (n d : Nat) (o : Option Int), clip n d o = HT.sIx n d o := fun n d o => by cases o <;> rfl
  unfold cut cutV
  rw [← h.len, e, e]
  exact (h.drop _).take _
theorem fin_lst' {F : Hp} {ρ : List Addr} {S : Sto} {H : Hp} {l : List D} {vs : List V} {Q : VK} {p : Addr} {σ : L2.St} (hs : StoR Z F ρ S H) (hp : H p = none) (r : Reps Z F ρ l vs) (q : PostA Z W (.ok (.lst l) S) (pV Z) F ρ σ H Q) : Q (.ref p) (upd H p (.lst vs)) := by
  have e : Ext nO F ρ H (upd F p (.lst vs)) ρ (upd H p (.lst vs)) := Ext.laid hp hs.le
  exact q _ _ _ _ e (hs.laid hp) (.lst (.inl upd_same) (e.reps r))
theorem fin_tup' {F : Hp} {ρ : List Addr} {S : Sto} {H : Hp} {l : List D} {vs : List V} {Q : VK} {p : Addr} {σ : L2.St} (hs : StoR Z F ρ S H) (hp : H p = none) (r : Reps Z F ρ l vs) (q : PostA Z W (.ok (.tup l) S) (pV Z) F ρ σ H Q) : Q (.ref p) (upd H p (.tup vs)) := by
  have e : Ext nO F ρ H (upd F p (.tup vs)) ρ (upd H p (.tup vs)) := Ext.laid hp hs.le
  exact q _ _ _ _ e (hs.laid hp) (.tup (.inl (.inl upd_same)) (e.reps r))
theorem se_slc {s : Sq} {lo hi : Exo} {a : Expr} {l h : Option Expr} {p2 pos} (hK : X.K = Z.K) (ha : OkQ X Z W G s a) (hl : OkO X Z W G lo l) (hh : OkO X Z W G hi h) : PE X (.Subscript a (.Slice l h none p2) pos) (tE Z W G (.slc s lo hi)) := by
  refine (pe_slice (sl_list.or sl_tupA) ha.2.2 (po_of hl) (po_of hh)).imp fun σ H Q h => ?_
  have h0 : tG Z W (fun v S => (evk G s v S).bind fun t S => (evo G lo v S).bind fun a S => (evo G hi v S).bind fun b S => match t with | .lst l => R.ok (D.lst (cut l a b)) S | .tup l => .ok (D.tup (cut l a b)) S | _ => .bad) (pV Z) σ H Q := h.eq fun v S => by rw [ev] <;> rfl
  refine (tG.bind2 (f := evk G s) (g := evo G lo) (k := fun t a v S => (evo G hi v S).bind fun b S => match t with | .lst l => R.ok (D.lst (cut l a b)) S | .tup l => .ok (D.tup (cut l a b)) S | _ => .bad) (P := pK Z) (P' := pEq)
    (fun a b F ρ H F1 ρ1 H1 S e s p => pK.ext e s p) h0).wk fun x1 H1 h1 => tG.wk h1 fun y1 H2 ⟨t, a', F2, ρ2, v2, S2, he, hs, p1, p2, q⟩ => ?_
  obtain rfl : a' = y1 := p2
  refine ⟨F2, ρ2, v2, S2, he, hs, (PostA.bind (P := pEq) q).mono fun b b1 F3 ρ3 H3 e3 p3 k3 => ?_⟩
  obtain ⟨b2, F4, ρ4, S4, e4, s4, p4, q4⟩ := k3 b1 p3
  obtain rfl : b2 = b1 := p4
  have p1' := pK.ext e4 hs p1
  rcases p1' with r | ⟨l, c, vs, rfl, rfl, hr, r⟩
  · cases r with
    | lst g1 r => exact .inl ⟨_, _, rfl, .inl (rdM s4.le g1), fun p hp => fin_lst' (W := W) s4 hp (r.cutR a' b2) q4⟩
    | tup g1 r =>
      refine .inr ⟨_, _, rfl, by rw [hK]; exact seqT s4.le g1, fun hw => ?_, fun hw p hp => fin_tup' (W := W) s4 hp (r.cutR a' b2) q4⟩
      have ec : ∀ {α : Type} (m : List α), m.length = (_ : List V).length → cut m a' b2 = m := fun m hm => by
        have e : ∀ (n d : Nat) (o : Option Int), clip n d o = HT.sIx n d o := fun n d o => by cases o <;> rfl
        unfold cut
        rw [e, e, hm, hw.1, hw.2, List.drop_zero, Nat.sub_zero, ← hm, List.take_length]
      have q5 : PostA Z W (R.ok (D.tup (cut _ a' b2)) S4) (pV Z) F4 ρ4 σ H3 Q := q4
      rw [ec _ r.len] at q5
      exact PostA.done q5 s4 (.tup g1 r)
    | _ => exact q4.elim
  · exact .inl ⟨c, vs, rfl, .inl hr, fun p hp => fin_lst' (W := W) s4 hp (r.cutR a' b2) q4⟩

/-! ### fields -/
/-- what is known of a class: its fields' names -/
structure ClsF (X : Cx) (Z : Ci) (nm : Nat → Str) (na : Nat) (c : Nat) (k : Cl) : Prop where
  names : Z.cn c = k.at_.map nm
  inj : ∀ f g, f < na → g ∈ k.at_ → nm g = nm f → g = f
  cls : Cls X.K (Z.ca c)
  no : ∀ f ∈ k.at_, NoAttr X.K (Z.ca c) (nm f)
  nd : k.at_.Nodup
  lt : ∀ f ∈ k.at_, f < na
theorem lookF_some {nm : Nat → Str} {F : Hp} {ρ : List Addr} {f : Nat} : ∀ {at_ : List Nat} {fs : List D} {vs : List V} {d : D}, (∀ g ∈ at_, nm g = nm f → g = f) → Reps Z F ρ fs vs → lookF f at_ fs = some d →
    f ∈ at_ ∧ ∃ v, ((at_.map nm).zip vs).lookup (nm f) = some v ∧ Rep Z F ρ d v
  | [], _, _, _, _, _, h => by simp [lookF] at h
  | g :: at_, [], _, _, _, _, h => by simp [lookF] at h
  | g :: at_, d' :: fs, vs, d, hi, r, h => by
    cases r with
    | cons r1 r2 =>
      rename_i v' vs'
      unfold lookF at h
      by_cases e : g = f
      · rw [if_pos e] at h; cases h
        subst e
        refine ⟨by simp, v', ?_, r1⟩
        show List.lookup (nm g) ((nm g, v') :: (at_.map nm).zip vs') = some v'
        simp [List.lookup]
      · rw [if_neg e] at h
        obtain ⟨h1, v, h2, h3⟩ := lookF_some (fun g hg => hi g (by simp [hg])) r2 h
        refine ⟨by simp [h1], v, ?_, h3⟩
        show List.lookup (nm f) ((nm g, v') :: (at_.map nm).zip vs') = some v
        have ne : (nm f == nm g) = false := beq_eq_false_iff_ne.mpr fun z => e (hi g (by simp) z.symm)
        simp only [List.lookup, ne]
        exact h2
theorem se_fld {nm : Nat → Str} {na : Nat} {a : Ex} {f : Nat} {x : Expr} {y : Str} {pos} (hc : ∀ c k, G.cls c = some k → ClsF X Z nm na c k) (hf : f < na) (hy : nm f = y) (ha : PE X x (tE Z W G a)) (hb : attributeBase x y X.env (eval x X.env) = eval x X.env) :
    PE X (.Attribute x y pos) (tE Z W G (.fld a f)) := by
  subst hy
  refine (pe_fld ha hb).imp fun σ H Q h => ?_
  refine (tG.bind (P := pV Z) (k := fun x _ S => match x with | .ins c fs => (match (G.cls c).bind fun k => lookF f k.at_ fs with | some d => R.ok d S | none => .bad) | _ => .bad) (h.eq fun v S => by rw [ev] <;> rfl)).wk fun x1 H1 ⟨d, F1, ρ1, v1, S1, he, hs, p, q⟩ => ?_
  cases p with
  | @ins a dx c vs fs h1 hl r =>
    cases e : G.cls c with
    | none => simp only [e, Option.bind_none] at q; exact q.elim
    | some k =>
      simp only [e, Option.bind_some] at q
      have K := hc c k e
      cases e2 : lookF f k.at_ fs with
      | none => rw [e2] at q; exact q.elim
      | some d =>
        rw [e2] at q
        obtain ⟨m1, w, m2, m3⟩ := lookF_some (nm := nm) (fun g hg => K.inj f g hf hg) r e2
        exact ⟨a, Z.ca c, dx, _, w, rfl, hs.le _ _ h1, K.cls, K.no f m1, by rw [K.names]; exact m2, PostA.done q hs m3⟩
  | _ => exact q.elim
/-- a field of the object that __init__ fills -/
theorem se_sfl {nm : Nat → Str} {na : Nat} {i f : Nat} {x y : Str} {p pos} (hc : ∀ c k, G.cls c = some k → ClsF X Z nm na c k) (hf : f < na) (hy : nm f = y) (hN : X.N[i]? = some x) (hv : Vis X.env.scope x) (hd : (x == ("__debug__" : Str)) = false) (hcd : (x == ("__classdict__" : Str)) = false)
    (hb : attributeBase (.Name x p) y X.env (eval (.Name x p) X.env) = eval (.Name x p) X.env) : PE X (.Attribute (.Name x p) y pos) (tE Z W G (.sfl i f)) := by
  subst hy
  refine (pe_fld (pe_var (i := i) hN hv hd hcd) hb).imp ?_
  rintro σ H Q ⟨F, ρ, v, S, he, hs, hp⟩
  rw [ev] at hp
  cases q : getN v i with
  | none => rw [q] at hp; exact hp.elim
  | some s =>
    rw [q] at hp
    cases s with
    | sf c fs =>
      obtain ⟨o, ho, a, dx, vs, rfl, h1, hl, h2, r⟩ := he.get q
      cases e : G.cls c with
      | none => simp only [e, Option.bind_none] at hp; exact hp.elim
      | some k =>
        simp only [e, Option.bind_some] at hp
        have K := hc c k e
        cases e2 : lookF f k.at_ fs with
        | none => rw [e2] at hp; exact hp.elim
        | some d =>
          rw [e2] at hp
          obtain ⟨m1, w, m2, m3⟩ := lookF_some (nm := nm) (fun g hg => K.inj f g hf hg) r e2
          exact ⟨_, ho, a, Z.ca c, dx, _, w, rfl, h1, K.cls, K.no f m1, by rw [K.names]; exact m2, PostA.done hp hs m3⟩
    | _ => exact hp.elim

/-! ### calls -/
/-- a def's promise, by the interpreter -/
def spF (Z : Ci) (call : List D → Sto → R D) (np : Nat) : Sp := fun vs H Q E => vs.length = np ∧ ∃ F ρ S ds, StoR Z F ρ S H ∧ Reps Z F ρ ds vs ∧ PostA Z (fun cls dx _ H' => E cls dx H') (call ds S) (pV Z) F ρ [] H Q
/-- a def that can be called with k arguments: the defaults dd fill up -/
structure CalF (X : Cx) (Z : Ci) (call : List D → Sto → R D) (a : Addr) (k : Nat) : Prop where
  ok : ∃ (fd : FuncData) (ps : List Str) (dvs : List V) (ds : List Value) (dd : List D) (n : Nat), FnOk X.prog X.w X.K X.mg X.base (L2.CX X.prog X.w) n a fd ps (spF Z call ps.length) ∧ Room n X.A ∧ Binds X.K fd ps ds ∧ Vals dvs ds ∧ k + dvs.length = ps.length ∧
    (∀ F ρ, Reps Z F ρ dd dvs) ∧ ∀ l S, l.length = k → call l S = call (l ++ dd) S
theorem PostA.slots {r : R α} {P : α → β → Hp → List Addr → Hp → Prop} {F : Hp} {ρ : List Addr} {σ : L2.St} {H : Hp} {Q : β → Hp → Prop} (h : PostA Z W r P F ρ σ H Q) : PostA Z (fun cls dx _ H' => W cls dx σ H') r P F ρ [] H Q := by
  cases r <;> exact h
def exN : Exs → Nat
  | .nil => 0
  | .cons _ es => exN es + 1
theorem evs_len : ∀ {es : Exs} {v : Env} {S S' : Sto} {l : List D}, evs G es v S = .ok l S' → l.length = exN es
  | .nil, v, S, S', l, h => by rw [evs] at h; cases h; rfl
  | .cons e es, v, S, S', l, h => by
    rw [evs] at h
    cases q : ev G e v S with
    | ok x S1 =>
      rw [q] at h
      have h : (evs G es v S1).bind (fun l S => R.ok (x :: l) S) = .ok l S' := h
      cases q2 : evs G es v S1 with
      | ok m S2 => rw [q2] at h; cases h; simp [exN, evs_len q2]
      | ex c fs S2 => rw [q2] at h; cases h
      | bad => rw [q2] at h; cases h
    | ex c fs S1 => rw [q] at h; cases h
    | bad => rw [q] at h; cases h
theorem Reps.lenV {F : Hp} {ρ : List Addr} {l : List D} {vs : List V} (h : Reps Z F ρ l vs) : vs.length = l.length := h.len.symm
/-- the arguments' length is known -/
theorem tEs_len {es : Exs} {as : List Expr} (hl : PA X as (tEs Z W G es)) : PA X as (fun σ H Q => tEs Z W G es σ H fun vs H1 => vs.length = exN es → Q vs H1) := by
  refine hl.imp fun σ H Q ⟨F, ρ, v, S, he, hs, hp⟩ => ⟨F, ρ, v, S, he, hs, ?_⟩
  cases q : evs G es v S with
  | ok l S1 =>
    rw [q] at hp
    intro b F' ρ' H' e s p
    exact hp b F' ρ' H' e s p (by rw [p.lenV, evs_len q])
  | ex c fs S1 => rw [q] at hp; exact hp
  | bad => rw [q] at hp; exact hp
theorem se_call {f : Nat} {es : Exs} {x : Str} {as : List Expr} {a : Addr} {p pos} (C : CalF X Z (G.call f) a (exN es)) (tk : Takes X W) (hg : Gl X x) (hm : X.mg x = some (.ref a)) (hk : PySem.W.keepIn X.K (.ref a) = true) (hdb : (x == ("__debug__" : Str)) = false)
    (ha : PA X as (tEs Z W G es)) (he : ∀ b bs, as = b :: bs → starEach as X.env = (false, eval b X.env) :: starEach bs X.env ∧ (backTo pos (starEach bs X.env)).any (·.1) = false) (hn : as = [] → es = .nil) : PE X (.Call (.Name x p) as [] pos) (tE Z W G (.call f es)) := by
  obtain ⟨fd, ps, dvs, ds, dd, n, F, hr, hb, hd, hlen, hdd, hfill⟩ := C.ok
  have fin : ∀ {σ : L2.St} {H1 : Hp} {Q : VK} {vs : List V} {l : List D} {F1 ρ1 S1}, vs.length = exN es → StoR Z F1 ρ1 S1 H1 → Reps Z F1 ρ1 l vs → PostA Z W (G.call f l S1) (pV Z) F1 ρ1 σ H1 Q → spF Z (G.call f) ps.length (vs ++ dvs) H1 Q (WE W σ) := by
    intro σ H1 Q vs l F1 ρ1 S1 hl hs r q
    refine ⟨by rw [List.length_append, hl]; exact hlen, F1, ρ1, S1, l ++ dd, hs, r.app (hdd F1 ρ1), ?_⟩
    rw [← hfill l S1 (by rw [r.len]; exact hl)]
    exact q.slots
  cases as with
  | nil =>
    obtain rfl := hn rfl
    refine (call0S F hr hg hm hk hb hd (fun σ => passAt tk σ) hdb).imp fun σ H Q h => ?_
    obtain ⟨F1, ρ1, v, S, he1, hs, hp⟩ := h
    rw [ev, evs] at hp
    exact fin (vs := []) (l := []) rfl hs .nil hp
  | cons b bs =>
    obtain ⟨h1, h2⟩ := he b bs rfl
    refine (pe_callSD F hr hg hm hk hb hd (fun σ => passAt tk σ) (tEs_len ha) hdb h1 h2).imp fun σ H Q h => ?_
    refine (tG.args (k := fun l _ S => G.call f l S) (h.eq fun v S => by rw [ev])).wk fun vs H1 ⟨l, F1, ρ1, v1, S1, he1, hs, r, q⟩ hl => fin hl hs r q
end
end Mi

set_option Elab.async false
set_option linter.all false
set_option maxRecDepth 100000
set_option maxHeartbeats 4000000
/-! Mi, part 10: built-ins, new objects, methods, dicts of the store. -/
namespace Mi
open PySem PySem.Spec PyProof.Rows L2
section
variable {Z : Ci} {W : WX} {G : Ga} {X : Cx} {α β γ δ : Type}

/-! ### built-ins over an operand -/
theorem pL_items {l : List D} {x : V} {F : Hp} {ρ : List Addr} {H : Hp} (h : pL Z l x F ρ H) : ∃ a vs, x = .ref a ∧ (SqL X.K H a vs) ∧ Reps Z F ρ l vs := by
  obtain ⟨a, vs, rfl, h, r⟩ := h
  exact ⟨a, vs, rfl, .inl h, r⟩
theorem se_len {s : Sq} {a : Expr} {p pos} (hK : X.K = Z.K) (hg : Gl X "len") (hm : X.mg "len" = none) (ha : OkQ X Z W G s a) (h1 : starEach [a] X.env = [(false, eval a X.env)]) : PE X (.Call (.Name "len" p) [a] [] pos) (tE Z W G (.len s)) := by
  refine (pe_callB call_len_seq hg hm boot_len (pa_one ha.1 h1) (he := by rw [h1]; rfl)).imp fun σ H Q h => ?_
  refine (tG.bind (P := pQ Z) (k := fun l _ S => R.ok (D.int l.length) S) (h.eq fun v S => by rw [ev])).wk fun x H1 ⟨l, F1, ρ1, v1, S1, he, hs, ⟨c, vs, ex, hq, r⟩, q⟩ => ?_
  subst ex
  rw [r.len] at q
  refine ⟨c, vs, rfl, ?_, PostA.done (P := pV Z) q hs .int⟩
  rcases hq with hq | hq
  · exact .inl (.inl hq)
  · exact .inr (by rw [hK]; exact seqT hs.le hq)
theorem sf_listOf {s : Sq} {a : Expr} {p pos} (hK : X.K = Z.K) (hg : Gl X "list") (hm : X.mg "list" = none) (ha : OkQ X Z W G s a) (h1 : starEach [a] X.env = [(false, eval a X.env)]) : PE X (.Call (.Name "list" p) [a] [] pos) (tF Z W (ev G (.listOf s))) := by
  refine (pe_callTy call_list_of hg hm (by decide +kernel) (pa_one ha.1 h1) (he := by rw [h1]; rfl)).imp fun σ H Q h => ?_
  obtain ⟨F, ρ, v, S, he, hs, hp⟩ := h
  have h' : tG Z W (fun v S => (evq G s v S).bind fun l S => R.ok (D.lst l) S) (pF Z H) σ H Q := ⟨F, ρ, v, S, he, hs, by rw [ev] at hp; exact hp⟩
  obtain ⟨F, ρ, v, S, he, hs, hp⟩ := tG.bind (P := pQ Z) (k := fun l _ S => R.ok (D.lst l) S) h'
  refine ⟨F, ρ, v, S, he, hs, hp.mono fun l x F' ρ' H' e p k => ?_⟩
  obtain ⟨l, F1, ρ1, v1, S1, he1, hs1, ⟨c, vs, ex, hq, r⟩, q⟩ := k x p
  subst ex
  refine ⟨c, vs, rfl, ?_, fun p hp => new_list hs1 hp (e.dom p) r q⟩
  rcases hq with hq | hq
  · exact .inl (.inl hq)
  · exact .inr (by rw [hK]; exact seqT hs1.le hq)
theorem se_tupOf {s : Sq} {a : Expr} {p pos} (hK : X.K = Z.K) (hg : Gl X "tuple") (hm : X.mg "tuple" = none) (ha : OkQ X Z W G s a) (h1 : starEach [a] X.env = [(false, eval a X.env)]) : PE X (.Call (.Name "tuple" p) [a] [] pos) (tE Z W G (.tupOf s)) := by
  refine (pe_callTy call_tuple_of hg hm (by decide +kernel) (pa_one ha.1 h1) (he := by rw [h1]; rfl)).imp fun σ H Q h => ?_
  refine (tG.bind (P := pQ Z) (k := fun l _ S => R.ok (D.tup l) S) (h.eq fun v S => by rw [ev])).wk fun x H1 ⟨l, F1, ρ1, v1, S1, he, hs, ⟨c, vs, ex, hq, r⟩, q⟩ => ?_
  subst ex
  refine ⟨c, vs, rfl, ?_⟩
  rcases hq with hq | hq
  · exact .inl ⟨.inl hq, fun p hp => fin_tup' (W := W) hs hp r q⟩
  · exact .inr ⟨by rw [hK]; exact seqT hs.le hq, PostA.done (P := pV Z) q hs (.tup hq r)⟩
theorem ints_reps : ∀ {l : List D} {ns : List Int} {vs : List V} {F : Hp} {ρ : List Addr}, toInts l = some ns → Reps Z F ρ l vs → vs = ns.map V.int ∧ l = ns.map D.int
  | [], ns, vs, F, ρ, h, r => by cases h; cases r; exact ⟨rfl, rfl⟩
  | d :: l, ns, vs, F, ρ, h, r => by
    cases d <;> simp only [toInts] at h <;> first | (cases h; done) | skip
    rename_i i
    cases e : toInts l with
    | none => rw [e] at h; cases h
    | some m =>
      rw [e] at h; cases h
      cases r with
      | cons r1 r2 =>
        obtain ⟨e1, e2⟩ := ints_reps e r2
        cases r1
        exact ⟨by rw [e1]; rfl, by rw [e2]; rfl⟩
theorem reps_ints {F : Hp} {ρ : List Addr} : ∀ ns : List Int, Reps Z F ρ (ns.map D.int) (ns.map V.int)
  | [] => .nil
  | _ :: ns => .cons .int (reps_ints ns)
theorem insI_perm (x : Int) : ∀ l : List Int, (insI x l).Perm (x :: l)
  | [] => .refl _
  | y :: l => by
    unfold insI
    split
    · exact .refl _
    · exact ((insI_perm x l).cons y).trans (.swap x y l)
theorem sortI_perm : ∀ l : List Int, (sortI l).Perm l
  | [] => .refl _
  | x :: l => (insI_perm x (sortI l)).trans ((sortI_perm l).cons x)
theorem insI_sorted (x : Int) : ∀ {l : List Int}, l.Pairwise (· ≤ ·) → (insI x l).Pairwise (· ≤ ·)
  | [], _ => by simp [insI]
  | y :: l, h => by
    unfold insI
    have h1 := List.pairwise_cons.mp h
    split
    · rename_i z
      exact List.pairwise_cons.mpr ⟨fun b hb => (List.mem_cons.mp hb).elim (fun e => by omega) (fun e => by have := h1.1 b e; omega), h⟩
    · rename_i z
      refine List.pairwise_cons.mpr ⟨fun b hb => ?_, insI_sorted x h1.2⟩
      rcases List.mem_cons.mp ((insI_perm x l).mem_iff.mp hb) with e | e
      · omega
      · exact h1.1 b e
theorem sortI_sorted : ∀ l : List Int, (sortI l).Pairwise (· ≤ ·)
  | [] => .nil
  | x :: l => insI_sorted x (sortI_sorted l)
theorem sorted_one : ∀ {l m : List Int}, l.Perm m → l.Pairwise (· ≤ ·) → m.Pairwise (· ≤ ·) → l = m
  | [], m, p, _, _ => (List.nil_perm.mp p).symm
  | x :: l, [], p, _, _ => absurd p.length_eq (by simp)
  | x :: l, y :: m, p, h, k => by
    have h1 := List.pairwise_cons.mp h
    have k1 := List.pairwise_cons.mp k
    have exy : x = y := by
      have a : x ≤ y := by
        rcases List.mem_cons.mp (p.mem_iff.mpr (List.mem_cons_self (a := y) (l := m))) with e | e
        · omega
        · exact h1.1 y e
      have b : y ≤ x := by
        rcases List.mem_cons.mp (p.mem_iff.mp (List.mem_cons_self (a := x) (l := l))) with e | e
        · omega
        · exact k1.1 x e
      omega
    subst exy
    rw [sorted_one (List.perm_cons x |>.mp p) h1.2 k1.2]
theorem sf_sorted {s : Sq} {a : Expr} {p pos} (hg : Gl X "sorted") (hm : X.mg "sorted" = none) (ha : OkQ X Z W G s a) (h1 : starEach [a] X.env = [(false, eval a X.env)]) : PE X (.Call (.Name "sorted" p) [a] [] pos) (tF Z W (ev G (.sorted s))) := by
  refine (pe_callB cr_sortedI hg hm (by decide +kernel) (pa_one ha.2.1 h1) (he := by rw [h1]; rfl)).imp fun σ H Q h => ?_
  obtain ⟨F, ρ, v, S, he, hs, hp⟩ := h
  have h' : tG Z W (fun v S => (evl G s v S).bind fun l S => match toInts l with | some ns => R.ok (D.lst ((sortI ns).map .int)) S | none => .bad) (pF Z H) σ H Q := ⟨F, ρ, v, S, he, hs, by rw [ev] at hp; exact hp⟩
  obtain ⟨F, ρ, v, S, he, hs, hp⟩ := tG.bind (P := pL Z) (k := fun l _ S => match toInts l with | some ns => R.ok (D.lst ((sortI ns).map .int)) S | none => .bad) h'
  refine ⟨F, ρ, v, S, he, hs, hp.mono fun l x F' ρ' H' e p k => ?_⟩
  obtain ⟨l, F1, ρ1, v1, S1, he1, hs1, ⟨c, vs, ex, hq, r⟩, q⟩ := k x p
  subst ex
  cases e2 : toInts l with
  | none => rw [e2] at q; exact q.elim
  | some ns =>
    rw [e2] at q
    obtain ⟨e3, e4⟩ := ints_reps e2 r
    subst e3
    refine ⟨c, ns, rfl, .inl hq, fun ns' p hp hs' hn => ?_⟩
    obtain rfl : ns' = sortI ns := sorted_one (hp.trans (sortI_perm ns).symm) hs' (sortI_sorted ns)
    exact new_list hs1 hn (e.dom p) (reps_ints _) q
theorem se_max2 {a b : Ex} {x y : Expr} {p pos} (hc : X.calm = true) (hg : Gl X "max") (hm : X.mg "max" = none) (ha : PE X x (tE Z W G a)) (hb : PE X y (tE Z W G b)) (h2 : starEach [x, y] X.env = (false, eval x X.env) :: starEach [y] X.env) (h1 : starEach [y] X.env = [(false, eval y X.env)]) :
    PE X (.Call (.Name "max" p) [x, y] [] pos) (tE Z W G (.max2 a b)) := by
  refine (pe_callB (call_max2 hc) hg hm (by decide +kernel) (pa_two ha hb h2 h1) (he := h2) (hpl := by rw [h1]; rfl)).imp fun σ H Q h => ?_
  refine (tG.bind2 (f := ev G a) (g := ev G b) (k := fun x y _ S => match x, y with | .int i, .int j => R.ok (D.int (if j > i then j else i)) S | _, _ => .bad) (P := pV Z) (P' := pV Z) (fun a b F ρ H F1 ρ1 H1 S e s p => pV.ext e s p) (h.eq fun v S => by rw [ev] <;> rfl)).wk
    fun x1 H1 h1 => tG.wk h1 fun y1 H2 ⟨d, d', F2, ρ2, v2, S2, he, hs, p1, p2, q⟩ => ?_
  cases p1 <;> first | (exact q.elim) | skip
  cases p2 <;> first | (exact q.elim) | skip
  exact ⟨_, _, rfl, PostA.done (P := pV Z) q hs .int⟩
theorem se_min2 {a b : Ex} {x y : Expr} {p pos} (hc : X.calm = true) (hg : Gl X "min") (hm : X.mg "min" = none) (ha : PE X x (tE Z W G a)) (hb : PE X y (tE Z W G b)) (h2 : starEach [x, y] X.env = (false, eval x X.env) :: starEach [y] X.env) (h1 : starEach [y] X.env = [(false, eval y X.env)]) :
    PE X (.Call (.Name "min" p) [x, y] [] pos) (tE Z W G (.min2 a b)) := by
  refine (pe_callB (call_min2 hc) hg hm (by decide +kernel) (pa_two ha hb h2 h1) (he := h2) (hpl := by rw [h1]; rfl)).imp fun σ H Q h => ?_
  refine (tG.bind2 (f := ev G a) (g := ev G b) (k := fun x y _ S => match x, y with | .int i, .int j => R.ok (D.int (if j < i then j else i)) S | _, _ => .bad) (P := pV Z) (P' := pV Z) (fun a b F ρ H F1 ρ1 H1 S e s p => pV.ext e s p) (h.eq fun v S => by rw [ev] <;> rfl)).wk
    fun x1 H1 h1 => tG.wk h1 fun y1 H2 ⟨d, d', F2, ρ2, v2, S2, he, hs, p1, p2, q⟩ => ?_
  cases p1 <;> first | (exact q.elim) | skip
  cases p2 <;> first | (exact q.elim) | skip
  exact ⟨_, _, rfl, PostA.done (P := pV Z) q hs .int⟩
theorem se_gcd {a b : Ex} {x y : Expr} {p pos} (hg : Gl X "gcd") (hm : X.mg "gcd" = some (.builtin "math.gcd")) (ha : PE X x (tE Z W G a)) (hb : PE X y (tE Z W G b)) (h2 : starEach [x, y] X.env = (false, eval x X.env) :: starEach [y] X.env) (h1 : starEach [y] X.env = [(false, eval y X.env)]) :
    PE X (.Call (.Name "gcd" p) [x, y] [] pos) (tE Z W G (.gcd a b)) := by
  refine (pe_callBfun cr_gcd hg hm (pa_two ha hb h2 h1) (he := h2) (hpl := by rw [h1]; rfl)).imp fun σ H Q h => ?_
  refine (tG.bind2 (f := ev G a) (g := ev G b) (k := fun x y _ S => match x, y with | .int i, .int j => R.ok (D.int ((Nat.gcd i.natAbs j.natAbs : Nat) : Int)) S | _, _ => .bad) (P := pV Z) (P' := pV Z) (fun a b F ρ H F1 ρ1 H1 S e s p => pV.ext e s p) (h.eq fun v S => by rw [ev] <;> rfl)).wk
    fun x1 H1 h1 => tG.wk h1 fun y1 H2 ⟨d, d', F2, ρ2, v2, S2, he, hs, p1, p2, q⟩ => ?_
  cases p1 <;> first | (exact q.elim) | skip
  cases p2 <;> first | (exact q.elim) | skip
  exact ⟨_, _, rfl, PostA.done (P := pV Z) q hs .int⟩
theorem se_intOf {a : Ex} {x : Expr} {p pos} (hg : Gl X "int") (hm : X.mg "int" = none) (ha : PE X x (tE Z W G a)) (h1 : starEach [x] X.env = [(false, eval x X.env)]) : PE X (.Call (.Name "int" p) [x] [] pos) (tE Z W G (.intOf a)) := by
  refine (pe_callTy call_int1 hg hm (by decide +kernel) (pa_one ha h1) (he := by rw [h1]; rfl)).imp fun σ H Q h => ?_
  refine (tG.bind (P := pV Z) (k := fun x _ S => match x with | .int i => R.ok (D.int i) S | .bl b => .ok (.int (b2 b)) S | _ => .bad) (h.eq fun v S => by rw [ev] <;> rfl)).wk fun x1 H1 ⟨d, F1, ρ1, v1, S1, he, hs, p, q⟩ => ?_
  cases p with
  | int => exact .inl ⟨_, rfl, PostA.done (P := pV Z) q hs .int⟩
  | bl => exact .inr ⟨_, rfl, PostA.done (P := pV Z) q hs .int⟩
  | _ => exact q.elim
theorem allB_reps : ∀ {l : List D} {b : Bool} {vs : List V} {F : Hp} {ρ : List Addr}, allB l = some b → Reps Z F ρ l vs → ∃ bs : List Bool, vs = bs.map V.bl ∧ b = bs.all id
  | [], b, vs, F, ρ, h, r => by cases h; cases r; exact ⟨[], rfl, rfl⟩
  | d :: l, b, vs, F, ρ, h, r => by
    cases d <;> simp only [allB] at h <;> first | (cases h; done) | skip
    rename_i c
    cases e : allB l with
    | none => rw [e] at h; cases h
    | some m =>
      rw [e] at h; cases h
      cases r with
      | cons r1 r2 =>
        obtain ⟨bs, e1, e2⟩ := allB_reps e r2
        cases r1
        exact ⟨c :: bs, by rw [e1]; rfl, by rw [e2]; rfl⟩
theorem se_all {s : Sq} {a : Expr} {p pos} (hg : Gl X "all") (hm : X.mg "all" = none) (ha : OkQ X Z W G s a) (hc : X.calm = true) (h1 : starEach [a] X.env = [(false, eval a X.env)]) :
    PE X (.Call (.Name "all" p) [a] [] pos) (tE Z W G (.all s)) := by
  refine (pe_callB (cr_all hc) hg hm (by decide +kernel) (pa_one ha.2.1 h1) (he := by rw [h1]; rfl)).imp fun σ H Q h => ?_
  refine (tG.bind (P := pL Z) (k := fun l _ S => match allB l with | some b => R.ok (D.bl b) S | none => .bad) (h.eq fun v S => by rw [ev] <;> rfl)).wk fun x H1 ⟨l, F1, ρ1, v1, S1, he, hs, ⟨c, vs, ex, hq, r⟩, q⟩ => ?_
  subst ex
  cases e : allB l with
  | none => rw [e] at q; exact q.elim
  | some b =>
    rw [e] at q
    obtain ⟨bs, rfl, rfl⟩ := allB_reps e r
    exact ⟨c, bs, rfl, .inl hq, PostA.done (P := pV Z) q hs .bl⟩
end
end Mi

set_option Elab.async false
set_option linter.all false
set_option maxRecDepth 100000
set_option maxHeartbeats 4000000
/-! Mi, part 38: lists put together and repeated, new ones; abs. -/
namespace Mi
open PySem PySem.Spec PyProof.Rows L2
section
variable {Z : Ci} {W : WX} {G : Ga} {X : Cx}
def rCat : R2 := fun x y H Q => ∃ a b xs zs, x = .ref a ∧ y = .ref b ∧ Rd H a (.lst xs) ∧ Rd H b (.lst zs) ∧ xs.length + zs.length ≤ sizeLine ∧ ∀ p, H p = none → Q (.ref p) (upd H p (.lst (xs ++ zs)))
theorem opr_cat : OpR X (binaryOp .Add) rCat := by
  intro pins s σ H x y v u Q I rx ry ⟨a, b, xs, zs, ex, ey, h1, h2, z, q⟩
  subst ex; subst ey
  cases rx; cases ry
  exact add_lists I h1 h2 z q
def rRep : R2 := fun x y H Q => ∃ a xs k, x = .ref a ∧ y = .int k ∧ Rd H a (.lst xs) ∧ -(2 ^ 63) ≤ k ∧ k < 2 ^ 63 ∧ xs.length * k.toNat ≤ sizeLine ∧ ∀ p, H p = none → Q (.ref p) (upd H p (.lst (List.replicate k.toNat xs).flatten))
theorem opr_rep : OpR X (binaryOp .Mult) rRep := by
  intro pins s σ H x y v u Q I rx ry ⟨a, xs, k, ex, ey, h1, h2, h3, z, q⟩
  subst ex; subst ey
  cases rx
  obtain ⟨t, rfl⟩ := ry
  exact times_list I h1 h2 h3 z q
/-- two parts, the ends known -/
theorem two_new {a b : Ex} {k : D → D → Sto → R D} {σ : L2.St} {H : Hp} {Q : VK} (h : tG Z W (fun v S => (ev G a v S).bind fun x S => (ev G b v S).bind fun y S => k x y S) (pF Z H) σ H Q) {r : R2}
    (f : ∀ x1 y1 H2 F2 ρ2 S2 d d', (∀ p, H2 p = none → H p = none) → StoR Z F2 ρ2 S2 H2 → Rep Z F2 ρ2 d x1 → Rep Z F2 ρ2 d' y1 → PostA Z W (k d d' S2) (pF Z H) F2 ρ2 σ H2 Q → r x1 y1 H2 Q) : tOp r (tE Z W G a) (tE Z W G b) σ H Q := by
  obtain ⟨F, ρ, v, S, he, hs, hp⟩ := h
  refine ⟨F, ρ, v, S, he, hs, (PostA.bind (P := pV Z) hp).mono fun x1 x2 F' ρ' H' e p k1 => ?_⟩
  obtain ⟨d, F1, ρ1, S1, e1, s1, p1, q⟩ := k1 x2 p
  refine ⟨F1, ρ1, v, S1, he.ext e1, s1, (PostA.bind (P := pV Z) q).mono fun y1 y2 F'' ρ'' H'' e2 p2 k2 => ?_⟩
  obtain ⟨d', F2, ρ2, S2, e3, s2, p3, q2⟩ := k2 y2 p2
  exact f _ _ _ _ _ _ d d' (fun p hp => e1.dom p (e3.dom p hp)) s2 (e3.rep p1) p3 q2
theorem sf_cat {a b : Ex} {x y : Expr} {pos} (ha : PE X x (tE Z W G a)) (hb : PE X y (tE Z W G b)) : PE X (.BinOp x .Add y pos) (tF Z W (ev G (.cat a b))) :=
  (pe_op opr_cat ha hb).imp fun σ H Q h => by
    refine two_new (k := fun x y S => match x, y with | .lst l, .lst m => (if l.length + m.length ≤ SZ then R.ok (.lst (l ++ m)) S else .bad) | _, _ => .bad) (by obtain ⟨F, ρ, v, S, he, hs, hp⟩ := h; exact ⟨F, ρ, v, S, he, hs, by rw [ev] at hp; exact hp⟩) fun x1 y1 H2 F2 ρ2 S2 d d' hd hs r1 r2 q => ?_
    cases r1 <;> first | exact q.elim | skip
    rename_i a1 xs l1 h1 q1
    cases r2 <;> first | exact q.elim | skip
    rename_i a2 ys l2 h2 q2
    simp only at q
    split at q
    · rename_i z
      rw [sz_line, q1.len, q2.len] at z
      exact ⟨_, _, _, _, rfl, rfl, rdM hs.le h1, rdM hs.le h2, z, fun p hp => new_list hs hp (hd p) (q1.app q2) q⟩
    · exact q.elim
theorem sf_reps {a b : Ex} {x y : Expr} {pos} (ha : PE X x (tE Z W G a)) (hb : PE X y (tE Z W G b)) : PE X (.BinOp x .Mult y pos) (tF Z W (ev G (.reps a b))) :=
  (pe_op opr_rep ha hb).imp fun σ H Q h => by
    refine two_new (k := fun x y S => match x, y with | .lst l, .int k => (if k < 9223372036854775808 ∧ -9223372036854775808 ≤ k ∧ l.length * k.toNat ≤ SZ then R.ok (.lst (rep l k.toNat)) S else .bad) | _, _ => .bad) (by obtain ⟨F, ρ, v, S, he, hs, hp⟩ := h; exact ⟨F, ρ, v, S, he, hs, by rw [ev] at hp; exact hp⟩) fun x1 y1 H2 F2 ρ2 S2 d d' hd hs r1 r2 q => ?_
    cases r1 <;> first | exact q.elim | skip
    rename_i a1 xs l1 h1 q1
    cases r2 <;> first | exact q.elim | skip
    rename_i k
    simp only at q
    split at q
    · rename_i z
      obtain ⟨z1, z2, z3⟩ := z
      refine ⟨_, _, k, rfl, rfl, rdM hs.le h1, by omega, by omega, by rw [← q1.len, ← sz_line]; exact z3, fun p hp => ?_⟩
      rw [← rep_eq]
      exact new_list hs hp (hd p) (q1.rep _) q
    · exact q.elim
theorem se_abs {a : Ex} {x : Expr} {p pos} (hg : Gl X "abs") (hm : X.mg "abs" = none) (ha : PE X x (tE Z W G a)) (h1 : starEach [x] X.env = [(false, eval x X.env)]) : PE X (.Call (.Name "abs" p) [x] [] pos) (tE Z W G (.abs a)) := by
  refine (pe_callB call_abs hg hm (by decide +kernel) (pa_one ha h1) (he := by rw [h1]; rfl)).imp fun σ H Q h => ?_
  refine (tG.bind (P := pV Z) (k := fun x _ S => match x with | .int i => R.ok (D.int (if i < 0 then -i else i)) S | _ => .bad) (h.eq fun v S => by rw [ev] <;> rfl)).wk fun x1 H1 ⟨d, F1, ρ1, v1, S1, he, hs, p, q⟩ => ?_
  cases p with
  | int => exact ⟨_, rfl, PostA.done (P := pV Z) q hs .int⟩
  | _ => exact q.elim
theorem upto_rg {F : Hp} {ρ : List Addr} : ∀ (n : Nat) (i : Int), Reps Z F ρ (upto n i) ((List.range n).map fun k => V.int (i + (k : Nat)))
  | 0, i => .nil
  | n + 1, i => by
    rw [List.range_succ_eq_map, List.map_cons, List.map_map]
    have h := upto_rg (F := F) (ρ := ρ) n (i + 1)
    have e : (fun k : Nat => V.int (i + 1 + (k : Nat))) = ((fun k : Nat => V.int (i + (k : Nat))) ∘ Nat.succ) := by
      funext k
      show V.int _ = V.int _
      congr 1
      show i + 1 + (k : Int) = i + ((k + 1 : Nat) : Int)
      omega
    rw [e] at h
    have z : V.int (i + ((0 : Nat) : Int)) = V.int i := by congr 1; omega
    show Reps Z F ρ (.int i :: upto n (i + 1)) _
    rw [z]
    exact .cons .int h
theorem one_new {a : Ex} {k : D → Sto → R D} {σ : L2.St} {H : Hp} {Q : VK} (h : tG Z W (fun v S => (ev G a v S).bind fun x S => k x S) (pF Z H) σ H Q) {r : V → Hp → Prop}
    (f : ∀ x1 H2 F2 ρ2 S2 d, (∀ p, H2 p = none → H p = none) → StoR Z F2 ρ2 S2 H2 → Rep Z F2 ρ2 d x1 → PostA Z W (k d S2) (pF Z H) F2 ρ2 σ H2 Q → r x1 H2) : tE Z W G a σ H r := by
  obtain ⟨F, ρ, v, S, he, hs, hp⟩ := h
  refine ⟨F, ρ, v, S, he, hs, (PostA.bind (P := pV Z) hp).mono fun x1 x2 F' ρ' H' e p k1 => ?_⟩
  obtain ⟨d, F1, ρ1, S1, e1, s1, p1, q⟩ := k1 x2 p
  exact f _ _ _ _ _ d (fun p hp => e1.dom p hp) s1 p1 q
theorem sf_lsR1 {a : Ex} {x : Expr} {p p2 pos pos2 : Pos} (hc : X.calm = true) (hg : Gl X "list") (hm : X.mg "list" = none) (hg2 : Gl X "range") (hm2 : X.mg "range" = none) (ha : PE X x (tE Z W G a)) (h1 : starEach [x] X.env = [(false, eval x X.env)]) :
    PE X (.Call (.Name "list" p) [.Call (.Name "range" p2) [x] [] pos2] [] pos) (tF Z W (ev G (.lsR1 a))) :=
  (pe_listRg hc hg hm (prg_1 hg2 hm2 ha (by rw [h1]; rfl))).imp fun σ H Q h => by
    refine one_new (k := fun x S => match x with | .int j => (if -4611686018427387904 ≤ j ∧ j ≤ 16777216 then R.ok (.lst (upto j.toNat 0)) S else .bad) | _ => .bad) (by obtain ⟨F, ρ, v, S, he, hs, hp⟩ := h; exact ⟨F, ρ, v, S, he, hs, by rw [ev] at hp; exact hp⟩) fun x1 H2 F2 ρ2 S2 d hd hs r1 q => ?_
    cases r1 <;> first | exact q.elim | skip
    rename_i j
    simp only at q
    split at q
    · rename_i z
      refine ⟨j, rfl, ⟨by omega, by omega, by omega, by omega, by omega⟩, fun p hp => ?_⟩
      have e : rgV 0 j = (List.range j.toNat).map fun k => V.int (0 + (k : Nat)) := by unfold rgV; rw [Int.sub_zero]
      rw [e]
      exact new_list hs hp (hd p) (upto_rg _ _) q
    · exact q.elim
theorem sf_lsR2 {a b : Ex} {x y : Expr} {p p2 pos pos2 : Pos} (hc : X.calm = true) (hg : Gl X "list") (hm : X.mg "list" = none) (hg2 : Gl X "range") (hm2 : X.mg "range" = none) (ha : PE X x (tE Z W G a)) (hb : PE X y (tE Z W G b)) (h1 : starEach [x, y] X.env = (false, eval x X.env) :: starEach [y] X.env) (h2 : starEach [y] X.env = [(false, eval y X.env)]) :
    PE X (.Call (.Name "list" p) [.Call (.Name "range" p2) [x, y] [] pos2] [] pos) (tF Z W (ev G (.lsR2 a b))) :=
  (pe_listRg hc hg hm (prg_2 hg2 hm2 ha hb h1 (by rw [h2]; rfl) (by rw [h2]; rfl))).imp fun σ H Q h => by
    refine two_new (r := fun x y H2 Q => ∃ i j, x = .int i ∧ y = .int j ∧ RgOk i j ∧ ∀ q, H2 q = none → Q (.ref q) (upd H2 q (.lst (rgV i j)))) (k := fun x y S => match x, y with | .int i, .int j => (if 0 ≤ i ∧ i ≤ 16777216 ∧ -4611686018427387904 ≤ j ∧ j ≤ 16777216 then R.ok (.lst (upto (j - i).toNat i)) S else .bad) | _, _ => .bad) (by obtain ⟨F, ρ, v, S, he, hs, hp⟩ := h; exact ⟨F, ρ, v, S, he, hs, by rw [ev] at hp; exact hp⟩) fun x1 y1 H2 F2 ρ2 S2 d d' hd hs r1 r2 q => ?_
    cases r1 <;> first | exact q.elim | skip
    rename_i i
    cases r2 <;> first | exact q.elim | skip
    rename_i j
    simp only at q
    split at q
    · rename_i z
      refine ⟨i, j, rfl, rfl, ⟨by omega, by omega, by omega, by omega, by omega⟩, fun p hp => ?_⟩
      exact new_list hs hp (hd p) (upto_rg _ _) q
    · exact q.elim
end
end Mi

set_option Elab.async false
set_option linter.all false
set_option maxRecDepth 100000
set_option maxHeartbeats 1000000
/-! Mi, part 39: a[::-1] of a list or a tuple. -/
namespace HT
open PySem PySem.Spec PyProof.Rows L2
section
variable {prog : Program} {w : World} {A : Around} {E : Value → Shared → Prop} {s : Shared}
theorem adjust_rev (n : Nat) : Builtin.Slice.sliceAdjust none none (-1) (n : Int) = ((n : Int) - 1, -1) := by
  unfold Builtin.Slice.sliceAdjust
  simp
theorem places_rev (n : Nat) : Builtin.Slice.slicePlaces ((n : Int) - 1) (-1) (-1) = n := by
  unfold Builtin.Slice.slicePlaces
  simp
  try omega
theorem sliceApplied_rev {sl : Addr} {vl vu vs : Value} {n : Nat} {Q : Int × Int × Nat → Shared → Prop} (hs : s.heap.IsSliceOf sl vl vu vs) (pl : IsPart vl none) (pu : IsPart vu none) (ps : IsPart vs (some (-1)))
    (h : Q ((n : Int) - 1, -1, n) s) : wpAny (model prog w) A (Builtin.Slice.sliceApplied (.ref sl) (pure (n : Int))) Q E s := by
  obtain ⟨os, hos, hcs, hds⟩ := id hs
  unfold Builtin.Slice.sliceApplied Builtin.Slice.sliceFields
  refine wpAny_bind (wpAny_bind (wpAny_field hos hds (x := vl) rfl (wpAny_bind (wpAny_field hos hds (x := vu) rfl (wpAny_bind (wpAny_field hos hds (x := vs) rfl (wpAny_pure ?_)))))))
  refine wpAny_bind (slicePart_ ps ?_)
  show wpAny _ _ (if ((-1 : Int) == 0) = true then _ else _) _ _ s
  rw [if_neg (by decide)]
  refine wpAny_bind (slicePart_ pl (wpAny_bind (slicePart_ pu (wpAny_bind (wpAny_pure ?_)))))
  show wpAny _ _ (match Builtin.Slice.sliceAdjust none none (-1) (n : Int) with | (lo, hi) => pure (lo, (-1 : Int), Builtin.Slice.slicePlaces lo hi (-1))) _ _ s
  rw [adjust_rev n]
  show wpAny _ _ (pure (((n : Int) - 1), (-1 : Int), Builtin.Slice.slicePlaces ((n : Int) - 1) (-1) (-1))) _ _ s
  rw [places_rev]
  exact wpAny_pure h
theorem fm_congr {α β : Type} {f g : α → Option β} : ∀ {l : List α}, (∀ a ∈ l, f a = g a) → l.filterMap f = l.filterMap g
  | [], _ => rfl
  | a :: l, h => by rw [List.filterMap_cons, List.filterMap_cons, h a (by simp), fm_congr (l := l) fun b hb => h b (by simp [hb])]
theorem pick_rev (xs : Array Value) : ((List.range xs.size).filterMap fun (m : Nat) => xs[(((xs.size : Int) - 1) + (m : Int) * (-1)).toNat]?).toArray = xs.toList.reverse.toArray := by
  have e : (List.range xs.size).filterMap (fun (m : Nat) => xs[(((xs.size : Int) - 1) + (m : Int) * (-1)).toNat]?) = ((List.range xs.size).map fun k => xs.size - 1 - k).filterMap (xs[·]?) := by
    rw [List.filterMap_map]
    refine fm_congr fun m hm => ?_
    have := List.mem_range.mp hm
    have q : (((xs.size : Int) - 1) + (m : Int) * (-1)).toNat = xs.size - 1 - m := by omega
    show _ = xs[xs.size - 1 - m]?
    rw [q]
  rw [e, PySem.W.krv_range, List.filterMap_reverse, PySem.W.krv_all]
theorem getItem_tuple_rev {t sl : Addr} {items : Array Value} {vl vu vs : Value} {Q : Value → Shared → Prop} (ht : IsTup s.heap t items) (hs : s.heap.IsSliceOf sl vl vu vs) (pl : IsPart vl none) (pu : IsPart vu none) (ps : IsPart vs (some (-1)))
    (h : Q (.ref s.heap.objs.size) { s with heap := s.heap.push { cls := .type "tuple", data := .seq items.toList.reverse.toArray } })
    (hsz : items.size ≤ sizeLine) : wpAny (model prog w) A (getItem (.ref t) (.ref sl)) Q E s := by
  have htake : sizeOk (.seq items.toList.reverse.toArray) := by
    show items.toList.reverse.toArray.size ≤ sizeLine
    rw [List.size_toArray, List.length_reverse, Array.length_toList]
    exact hsz
  obtain ⟨os, hos, hcs, hds⟩ := id hs
  have hTs : s.TypeIs (.ref sl) "slice" := ⟨os, hos, hcs⟩
  unfold getItem
  try with_reducible refine wpAny_holding ?_
  first | refine wpAny_bind (wpAny_pure ?_) | skip
  refine wpAny_bind (wpAny_sequenceKey ht.typeIs (by decide) ?_)
  refine wpAny_bind (wpAny_callSpecial?_slot (name := Str.ofString "__getitem__") ht.typeIs PyProof.Rows.slot_tuple_getitem
    (wpAny_call_entry PyProof.Rows.slot_tuple_getitem ht.typeIs entry_tuple_getitem ?_ (args_tuple_getitem _ _)))
  show wpAny _ _ (Builtin.Tuple.tupleItemsOf (.ref t) >>= _) _ _ s
  refine wpAny_bind (tupleItemsOf_ ht ?_)
  refine wpAny_bind (wpAny_typeOf hTs ?_)
  rw [if_pos (by decide)]
  refine wpAny_bind (sliceApplied_rev hs pl pu ps ?_)
  show wpAny _ _ (if (((items.size : Int) - 1) == 0 && (-1 : Int) == 1 && items.size == items.size) = true then _ else _) _ _ s
  rw [if_neg (by simp), pick_rev]
  first
    | exact wpAny_bind (m := Builtin.Tuple.tupleExact _) (wpAny_newObj_type (wpAny_pure ⟨_, rfl, wpAny_pure h⟩) htake)
    | exact wpAny_bind (m := Builtin.Tuple.tupleExact _) (wpAny_newObj_type (wpAny_bind (wpAny_pure (wpAny_pure ⟨_, rfl, wpAny_pure h⟩))) htake)
    | exact wpAny_bind (wpAny_bind (m := Builtin.Tuple.tupleExact _) (wpAny_newObj_type (wpAny_pure (wpAny_pure ⟨_, rfl, wpAny_pure h⟩)) htake))
    | exact wpAny_bind (wpAny_bind (m := Builtin.Tuple.tupleExact _) (wpAny_newObj_type (wpAny_pure ⟨_, rfl, wpAny_pure h⟩) htake))
end
end HT
namespace Mi
open PySem PySem.Spec PyProof.Rows L2
section
variable {Z : Ci} {W : WX} {G : Ga} {X : Cx}
def tRevA (K : PySem.W.Frag) (te : TE) : TE := fun σ H Q => te σ H fun x H1 => (∃ a xs, x = .ref a ∧ SqL K H1 a xs ∧ ∀ p, H1 p = none → Q (.ref p) (upd H1 p (.lst xs.reverse))) ∨ ∃ a xs, x = .ref a ∧ SqT K H1 a xs ∧ ∀ p, H1 p = none → Q (.ref p) (upd H1 p (.tup xs.reverse))
theorem pe_revA {e : Expr} {te : TE} {k : Nat} {p1 p2 p3 pos : Pos} (he : PE X e te) : PE X (.Subscript e (.Slice none none (some (.UnaryOp .USub (.Constant (.int 1) k p1) p2)) p3) pos) (tRevA X.K te) := by
  refine ⟨fun pins s σ H Q I h => ?_⟩
  refine Subscript_ (thn (he.run pins s σ H _ I h) fun v s1 ⟨x, H1, I1, r1, q1⟩ => ?_)
  have hst : PO X (some (.UnaryOp .USub (.Constant (.int 1) k p1) p2)) (tPart (tUn (rU fun i => .int (-i)) (tC (.int 1)))) := po_some (pe_un un_neg pe_int)
  refine wpAny_Slice (thn (po_none.run pins s1 σ H1 (fun o H2 => o = none ∧ H2 = H1) I1 ⟨rfl, rfl⟩) fun vl s2 ⟨l, H2, I2, pl, el, e2⟩ => ?_)
  subst el e2
  refine thn (po_none.run pins s2 σ H2 (fun o H3 => o = none ∧ H3 = H2) I2 ⟨rfl, rfl⟩) fun vu s3 ⟨u, H3, I3, pu, eu, e3⟩ => ?_
  subst eu e3
  refine thn (hst.run pins s3 σ H3 (fun o H4 => o = some (-1) ∧ H4 = H3) I3 ⟨1, rfl, -1, rfl, rfl, rfl⟩) fun vs s4 ⟨o, H4, I4, ps, eo, e4⟩ => ?_
  subst eo e4
  have I5 : Inv X pins σ H4 { s4 with heap := s4.heap.push { cls := .type "slice", data := .fields #[vl, vu, vs] } } := I4.kept (t' := s4.toks) fun b ob q => Heap.get?_push_of_some _ q
  rcases q1 with ⟨a, xs, ex, hx, q⟩ | ⟨a, xs, ex, hx, q⟩
  · subst ex
    cases r1
    obtain ⟨its, r, ht, hz⟩ := I5.list hx
    have hlen := r.length
    show wpAny (model X.prog X.w) X.A (subscriptTail e (.Slice none none (some (.UnaryOp .USub (.Constant (.int 1) k p1) p2)) p3) (.ref a) (.ref s4.heap.objs.size)) (EP X pins σ Q) X.xe { s4 with heap := s4.heap.push { cls := .type "slice", data := .fields #[vl, vu, vs] } }
    refine tail_any (ops := [.ref a, .ref s4.heap.objs.size]) ht.isList.typeIs (PySem.slot_list_getitem.lookup) ?_ (by with_unfolding_all rfl)
    refine wpAny_getItem_list_slice ht.isList (Heap.IsSliceOf.new _ vl vu vs) pl pu ps (by decide) ?_ (by rw [List.size_toArray]; omega)
    rw [PySem.W.krv_pick]
    refine ⟨.ref _, _, I5.laid (t' := s4.toks) (o := .lst xs.reverse) (fun b ob q => Heap.get?_push_of_some _ q) (Nat.le_refl _) ?_, rfl, q _ (I5.hok.fresh (Nat.le_refl _))⟩
    exact ⟨by rw [List.length_reverse]; exact hz, _, 0, r.reverse, Heap.get?_push_size _ rfl⟩
  · subst ex
    cases r1
    obtain ⟨its, r, ht, hz⟩ := I5.tuple hx
    have hlen := r.length
    show wpAny (model X.prog X.w) X.A (subscriptTail e (.Slice none none (some (.UnaryOp .USub (.Constant (.int 1) k p1) p2)) p3) (.ref a) (.ref s4.heap.objs.size)) (EP X pins σ Q) X.xe { s4 with heap := s4.heap.push { cls := .type "slice", data := .fields #[vl, vu, vs] } }
    refine tail_any (ops := [.ref a, .ref s4.heap.objs.size]) ht.typeIs (PyProof.Rows.slot_tuple_getitem.lookup) ?_ (by with_unfolding_all rfl)
    refine HT.getItem_tuple_rev ht (Heap.IsSliceOf.new _ vl vu vs) pl pu ps ?_ (by rw [List.size_toArray]; omega)
    refine ⟨.ref _, _, I5.laid (t' := s4.toks) (o := .tup xs.reverse) (fun b ob q => Heap.get?_push_of_some _ q) (Nat.le_refl _) ?_, rfl, q _ (I5.hok.fresh (Nat.le_refl _))⟩
    exact ⟨by rw [List.length_reverse]; exact hz, _, r.reverse, IsTup.new _ _⟩
theorem Reps.rev {F : Hp} {ρ : List Addr} {l : List D} {vs : List V} (h : Reps Z F ρ l vs) : Reps Z F ρ l.reverse vs.reverse := by
  induction l generalizing vs with
  | nil => cases h; exact .nil
  | cons d l ih =>
    cases h with
    | cons h1 h2 =>
      rw [List.reverse_cons, List.reverse_cons]
      exact (ih h2).app (.cons h1 .nil)
theorem se_rev {s : Sq} {a : Expr} {k : Nat} {p1 p2 p3 pos : Pos} (hK : X.K = Z.K) (ha : OkQ X Z W G s a) : PE X (.Subscript a (.Slice none none (some (.UnaryOp .USub (.Constant (.int 1) k p1) p2)) p3) pos) (tE Z W G (.rev s)) := by
  refine (pe_revA ha.2.2).imp fun σ H Q h => ?_
  refine (tG.bind (f := evk G s) (P := pK Z) (k := fun t _ S => match t with | .lst l => R.ok (D.lst l.reverse) S | .tup l => .ok (D.tup l.reverse) S | _ => .bad) (h.eq fun v S => by rw [ev] <;> rfl)).wk fun x1 H1 ⟨t, F1, ρ1, v1, S1, he, hs, p, q⟩ => ?_
  rcases p with r | ⟨l, c, vs, rfl, rfl, hr, r⟩
  · cases r with
    | lst g1 r => exact .inl ⟨_, _, rfl, .inl (rdM hs.le g1), fun p hp => fin_lst' (W := W) hs hp r.rev q⟩
    | tup g1 r => exact .inr ⟨_, _, rfl, by rw [hK]; exact seqT hs.le g1, fun p hp => fin_tup' (W := W) hs hp r.rev q⟩
    | _ => exact q.elim
  · exact .inl ⟨c, vs, rfl, .inl hr, fun p hp => fin_lst' (W := W) hs hp r.rev q⟩
end
end Mi

set_option Elab.async false
set_option linter.all false
set_option maxRecDepth 100000
set_option maxHeartbeats 4000000
/-! Mi, part 11: what is walked; comprehensions. -/
namespace Mi
open PySem PySem.Spec PyProof.Rows L2
section
variable {Z : Ci} {W : WX} {G : Ga} {X : Cx} {α β γ δ : Type}
/-- an iterator that yields the values l, while all but O stands -/
def pI (Z : Ci) (O : Addr → Prop) : List D → L2.It → Hp → List Addr → Hp → Prop := fun l J F ρ H => ∃ (Gd : Hp → Prop) (Y : Nat → Hp → V → Hp → Prop), Walk J l.length Gd Y ∧
  (∀ F1 ρ1 S1 H1, Ext O F ρ H F1 ρ1 H1 → StoR Z F1 ρ1 S1 H1 → Gd H1) ∧
  ∀ (i : Nat) (Hc : Hp) (x : V) (H' : Hp) (F1 : Hp) (ρ1 : List Addr) (S1 : Sto), Ext O F ρ H F1 ρ1 Hc → StoR Z F1 ρ1 S1 Hc → i < l.length → Y i Hc x H' → ∃ F2 d, Ext nO F1 ρ1 Hc F2 ρ1 H' ∧ StoR Z F2 ρ1 S1 H' ∧ l[i]? = some d ∧ Rep Z F2 ρ1 d x
abbrev tI (Z : Ci) (W : WX) (G : Ga) (O : Addr → Prop) (it : Wk) : TI := tG Z W (evt G it) (pI Z O)
/-- an operand that stands still while all but O does -/
def qQ (Z : Ci) (O : Addr → Prop) : List D → V → Hp → List Addr → Hp → Prop := fun l x F ρ H => ∃ a vs, x = .ref a ∧ (Rd F a (.lst vs) ∨ ((∀ b, ¬ O b) ∧ Rd H a (.lst vs)) ∨ SqT Z.K F a vs) ∧ Reps Z F ρ l vs
abbrev tQo (Z : Ci) (W : WX) (G : Ga) (O : Addr → Prop) (s : Sq) : TE := tG Z W (evq G s) (qQ Z O)
def noOwn : Sq → Bool
  | .own _ => false
  | .ex _ => true
theorem sqo_of {s : Sq} {a : Expr} {O : Addr → Prop} (h : OkQ X Z W G s a) (ho : noOwn s = true ∨ ∀ b, ¬ O b) (hx : ∀ e, s = .ex e → PE X a (tE Z W G e)) : PE X a (tQo Z W G O s) := by
  cases s with
  | own i =>
    have ho : ∀ b, ¬ O b := ho.resolve_left (by simp [noOwn])
    refine h.1.imp fun σ H Q ⟨F, ρ, v, S, he, hs, hp⟩ => ⟨F, ρ, v, S, he, hs, hp.mono fun l x F' ρ' H' _ p k => k x ?_⟩
    obtain ⟨a, vs, ex, h, r⟩ := p
    exact ⟨a, vs, ex, h.elim (fun q => .inr (.inl ⟨ho, q⟩)) fun q => .inr (.inr q), r⟩
  | ex e =>
    refine (hx e rfl).imp fun σ H Q q => ?_
    refine tG.map (P := pV Z) (k := fun x S => match x with | .lst l => R.ok l S | .tup l => .ok l S | _ => .bad) (q.eq fun v S => by rw [evq] <;> rfl) fun d b F ρ H S hs p => ?_
    cases p with
    | lst h1 r => exact .inl ⟨_, rfl, _, _, rfl, .inl h1, r⟩
    | tup h1 r => exact .inl ⟨_, rfl, _, _, rfl, .inr (.inr h1), r⟩
    | _ => exact .inr rfl
theorem qQ_seq {O : Addr → Prop} {F H F1 H1 : Hp} {ρ ρ1 : List Addr} {S S1 : Sto} {a : Addr} {vs : List V} (hK : X.K = Z.K) (h : Rd F a (.lst vs) ∨ ((∀ b, ¬ O b) ∧ Rd H a (.lst vs)) ∨ SqT Z.K F a vs) (s : StoR Z F ρ S H) :
    (∀ F1 ρ1 S1 H1, Ext O F ρ H F1 ρ1 H1 → StoR Z F1 ρ1 S1 H1 → Rd H1 a (.lst vs)) ∨ (∀ F1 ρ1 S1 H1, Ext O F ρ H F1 ρ1 H1 → StoR Z F1 ρ1 S1 H1 → SqT X.K H1 a vs) := by
  rcases h with h | ⟨ho, h⟩ | h
  · exact .inl fun F1 ρ1 S1 H1 e s1 => rdM s1.le (rdM e.le h)
  · exact .inl fun F1 ρ1 S1 H1 e s1 => rd_ext e s (ho a) h
  · exact .inr fun F1 ρ1 S1 H1 e s1 => by rw [hK]; exact seqT s1.le (seqT e.le h)
theorem nth_of {xs : List V} {l : List D} {F : Hp} {ρ : List Addr} (r : Reps Z F ρ l xs) {i : Nat} {x : V} (h : xs[i]? = some x) : ∃ d, l[i]? = some d ∧ Rep Z F ρ d x := by
  have hi : i < l.length := by rw [r.len]; exact (List.getElem?_eq_some_iff.mp h).1
  obtain ⟨v, hv, q⟩ := r.get (n := i) (d := l[i]) (by simp [hi])
  rw [h] at hv; cases hv
  exact ⟨l[i], by simp [hi], q⟩
/-- over a list or a tuple -/
def iSeq (K : PySem.W.Frag) (tl : TE) : TI := fun σ H R => tl σ H fun x H1 => ∃ a xs, x = .ref a ∧ ((SqL K H1 a xs ∧ R (Itl K a) H1) ∨ (SqT K H1 a xs ∧ R (Itt K a) H1))
theorem pi_seq {tg l : Expr} {tl : TE} (hl : PE X l tl) : PI X tg l (iSeq X.K tl) := by
  refine ⟨fun pins s σ H R I h => ?_⟩
  refine thn (hl.run pins s σ H _ I h) fun v s1 ⟨x, H1, I1, r1, a, xs, ex, hq⟩ => ?_
  subst ex
  cases r1
  rcases hq with ⟨hq, q⟩ | ⟨hq, q⟩
  · obtain ⟨us, rv, pl, _⟩ := I1.list hq
    refine wpAny_pyIter_list pl.isList ⟨s1.heap.objs.size, [s1.heap.objs.size], _, _, H1, rfl, I1.kept (t' := s1.toks) fun b o e => Heap.get?_push_of_some _ e, turn_list a _, ⟨_, Heap.get?_push_size _ rfl, rfl, rfl⟩, fun b hb => ?_, q⟩
    rw [List.mem_singleton.mp hb]
    exact I1.fpOk (Nat.le_refl _) (I1.hok.fresh (Nat.le_refl _))
  · obtain ⟨us, rv, pl, _⟩ := I1.tuple hq
    refine wpAny_pyIter_tuple (show s1.heap.IsTuple a us.toArray from pl) ⟨s1.heap.objs.size, [s1.heap.objs.size], _, _, H1, rfl, I1.kept (t' := s1.toks) fun b o e => Heap.get?_push_of_some _ e, turn_tuple a _, ⟨_, Heap.get?_push_size _ rfl, rfl, rfl⟩, fun b hb => ?_, q⟩
    rw [List.mem_singleton.mp hb]
    exact I1.fpOk (Nat.le_refl _) (I1.hok.fresh (Nat.le_refl _))
theorem walk_len {J : L2.It} {n m : Nat} {Gd : Hp → Prop} {Y : Nat → Hp → V → Hp → Prop} (w : Walk J n Gd Y) (e : n = m) : Walk J m Gd Y := e ▸ w
theorem si_seq {s : Sq} {tg a : Expr} {O : Addr → Prop} (hK : X.K = Z.K) (ha : PE X a (tQo Z W G O s)) : PI X tg a (tI Z W G O (.seq s)) := by
  refine ⟨fun pins st σ H Rr I h => (pi_seq ha).run pins st σ H Rr I ?_⟩
  refine (tG.bind (P := qQ Z O) (k := fun l _ S => R.ok l S) (h.eq fun v S => by rw [evt]; cases evq G s v S <;> rfl)).wk fun x H1 ⟨l, F1, ρ1, v1, S1, he, hs, ⟨c, vs, ex, hq, r⟩, q⟩ => ?_
  subst ex
  refine ⟨c, vs, rfl, ?_⟩
  rcases qQ_seq (X := X) (F1 := F1) (H1 := H1) (ρ1 := ρ1) (S1 := S1) hK hq hs with z | z
  · refine .inl ⟨.inl (z _ _ _ _ .refl hs), PostA.done (P := pI Z O) q hs ⟨_, _, walk_len (walk_list (K := X.K) (a := c) (xs := vs)) r.len.symm, fun F2 ρ2 S2 H2 e s2 => .inl (z _ _ _ _ e s2), fun i Hc x H' F2 ρ2 S2 e s2 _ y => ?_⟩⟩
    obtain ⟨rfl, hx⟩ := y
    obtain ⟨d, h1, h2⟩ := nth_of (e.reps r) hx
    exact ⟨F2, d, .refl, s2, h1, h2⟩
  · refine .inr ⟨z _ _ _ _ .refl hs, PostA.done (P := pI Z O) q hs ⟨_, _, walk_len (walk_tup (K := X.K) (a := c) (xs := vs)) r.len.symm, fun F2 ρ2 S2 H2 e s2 => z _ _ _ _ e s2, fun i Hc x H' F2 ρ2 S2 e s2 _ y => ?_⟩⟩
    obtain ⟨rfl, hx⟩ := y
    obtain ⟨d, h1, h2⟩ := nth_of (e.reps r) hx
    exact ⟨F2, d, .refl, s2, h1, h2⟩
theorem upto_len : ∀ (n : Nat) (i : Int), (upto n i).length = n
  | 0, _ => rfl
  | n + 1, i => by show (upto n (i + 1)).length + 1 = n + 1; rw [upto_len]
theorem upto_get : ∀ (n : Nat) (i : Int) (k : Nat), k < n → (upto n i)[k]? = some (.int (i + k))
  | n + 1, i, 0, _ => by show some (D.int i) = _; simp
  | n + 1, i, k + 1, h => by
    show (upto n (i + 1))[k]? = _
    rw [upto_get n (i + 1) k (by omega)]
    congr 2; omega
theorem pI_range {O : Addr → Prop} {lo : Int} {n : Nat} {F H : Hp} {ρ : List Addr} : pI Z O (upto n lo) (Itr lo n) F ρ H := by
  refine ⟨_, _, walk_len (walk_range (lo := lo) (n := n)) (upto_len n lo).symm, fun _ _ _ _ _ _ => trivial, fun i Hc x H' F1 ρ1 S1 e s hi y => ?_⟩
  obtain ⟨rfl, rfl⟩ := y
  rw [upto_len] at hi
  exact ⟨F1, _, .refl, s, upto_get n lo i hi, .int⟩
theorem si_rng1 {a : Ex} {tg x : Expr} {O : Addr → Prop} {p pos} (hg : Gl X "range") (hm : X.mg "range" = none) (ha : PE X x (tE Z W G a)) (h1 : starEach [x] X.env = [(false, eval x X.env)]) : PI X tg (.Call (.Name "range" p) [x] [] pos) (tI Z W G O (.rng1 a)) := by
  refine ⟨fun pins st σ H Rr I h => (pi_range1 hg hm (pa_one ha h1) h1).run pins st σ H Rr I ?_⟩
  refine (tG.bind (P := pV Z) (k := fun x _ S => match x with | .int j => if -4611686018427387904 ≤ j ∧ j < 4611686018427387904 then R.ok (upto j.toNat 0) S else .bad | _ => .bad) (h.eq fun v S => by rw [evt] <;> rfl)).wk fun x H1 ⟨d, F1, ρ1, v1, S1, he, hs, p, q⟩ => ?_
  cases p with
  | @int j =>
    by_cases z : -4611686018427387904 ≤ j ∧ j < 4611686018427387904
    · simp only [if_pos z] at q
      exact ⟨j, rfl, by omega, by omega, PostA.done (P := pI Z O) q hs pI_range⟩
    · simp only [if_neg z] at q; exact q.elim
  | _ => exact q.elim
theorem si_rng2 {a b : Ex} {tg x y : Expr} {O : Addr → Prop} {p pos} (hg : Gl X "range") (hm : X.mg "range" = none) (ha : PE X x (tE Z W G a)) (hb : PE X y (tE Z W G b)) (h2 : starEach [x, y] X.env = [(false, eval x X.env), (false, eval y X.env)]) (h1 : starEach [y] X.env = [(false, eval y X.env)]) :
    PI X tg (.Call (.Name "range" p) [x, y] [] pos) (tI Z W G O (.rng2 a b)) := by
  refine ⟨fun pins st σ H Rr I h => (pi_range2 hg hm (pa_two ha hb (by rw [h2, h1]) h1) h2 h1).run pins st σ H Rr I ?_⟩
  refine (tG.bind2 (f := ev G a) (g := ev G b) (k := fun x y _ S => match x, y with | .int i, .int j => if (-4611686018427387904 ≤ i ∧ i < 4611686018427387904) ∧ -4611686018427387904 ≤ j ∧ j < 4611686018427387904 then R.ok (upto (j - i).toNat i) S else .bad | _, _ => .bad) (P := pV Z) (P' := pV Z)
    (fun a b F ρ H F1 ρ1 H1 S e s p => pV.ext e s p) (h.eq fun v S => by rw [evt] <;> rfl)).wk fun x1 H1 h1 => tG.wk h1 fun y1 H2 ⟨d, d', F2, ρ2, v2, S2, he, hs, p1, p2, q⟩ => ?_
  cases p1 with
  | @int i =>
    cases p2 with
    | @int j =>
      by_cases z : (-4611686018427387904 ≤ i ∧ i < 4611686018427387904) ∧ -4611686018427387904 ≤ j ∧ j < 4611686018427387904
      · simp only [if_pos z] at q
        exact ⟨i, j, rfl, ⟨by omega, by omega, by omega, by omega⟩, PostA.done (P := pI Z O) q hs pI_range⟩
      · simp only [if_neg z] at q; exact q.elim
    | _ => exact q.elim
  | _ => exact q.elim
/-! ### slots that are stored -/
theorem EnvR.put {F H : Hp} {ρ : List Addr} {v : Env} {σ : L2.St} (h : EnvR Z F ρ v σ H) {i : Nat} {d : D} {x : V} (r : Rep Z F ρ d x) : EnvR Z F ρ (setN v i (.va d)) (σ.set i (some x)) H := by
  rw [setN_eq]
  have own : ∀ {j : Nat} {s : Sl} {o : Option V} {a : Addr}, (v.set i (.va d))[j]? = some s → (σ.set i (some x))[j]? = some o → Own s o a → v[j]? = some s ∧ σ[j]? = some o := by
    intro j s o a h1 h2 w
    by_cases e : i = j
    · subst e
      rw [List.getElem?_set] at h1
      split at h1
      · split at h1
        · cases h1; exact w.1.elim
        · cases h1
      · rename_i z; exact absurd rfl z
    · rw [List.getElem?_set_ne e] at h1 h2; exact ⟨h1, h2⟩
  refine ⟨by rw [List.length_set, List.length_set]; exact h.len, fun j s o h1 h2 => ?_, fun j k s t o p a h1 h2 h3 h4 w1 w2 => ?_, fun j s o a h1 h2 w => ?_⟩
  · by_cases e : i = j
    · subst e
      rw [List.getElem?_set] at h1 h2
      rw [if_pos rfl] at h1 h2
      split at h1
      · split at h2
        · cases h1; cases h2; exact ⟨x, rfl, r⟩
        · cases h2
      · cases h1
    · rw [List.getElem?_set_ne e] at h1 h2; exact h.at_ j s o h1 h2
  · obtain ⟨a1, a2⟩ := own h1 h2 w1
    obtain ⟨b1, b2⟩ := own h3 h4 w2
    exact h.inj j k s t o p a a1 a2 b1 b2 w1 w2
  · obtain ⟨a1, a2⟩ := own h1 h2 w
    exact h.out j s o a a1 a2 w
theorem EnvR.forget {F H : Hp} {ρ : List Addr} {v : Env} {σ : L2.St} (h : EnvR Z F ρ v σ H) {i : Nat} {o' : Option V} : EnvR Z F ρ (setN v i .un) (σ.set i o') H := by
  rw [setN_eq]
  have own : ∀ {j : Nat} {s : Sl} {o : Option V} {a : Addr}, (v.set i .un)[j]? = some s → (σ.set i o')[j]? = some o → Own s o a → v[j]? = some s ∧ σ[j]? = some o := by
    intro j s o a h1 h2 w
    by_cases e : i = j
    · subst e
      rw [List.getElem?_set, if_pos rfl] at h1
      split at h1
      · cases h1; exact w.1.elim
      · cases h1
    · rw [List.getElem?_set_ne e] at h1 h2; exact ⟨h1, h2⟩
  refine ⟨by rw [List.length_set, List.length_set]; exact h.len, fun j s o h1 h2 => ?_, fun j k s t o p a h1 h2 h3 h4 w1 w2 => ?_, fun j s o a h1 h2 w => ?_⟩
  · by_cases e : i = j
    · subst e
      rw [List.getElem?_set, if_pos rfl] at h1
      split at h1
      · cases h1; trivial
      · cases h1
    · rw [List.getElem?_set_ne e] at h1 h2; exact h.at_ j s o h1 h2
  · obtain ⟨a1, a2⟩ := own h1 h2 w1
    obtain ⟨b1, b2⟩ := own h3 h4 w2
    exact h.inj j k s t o p a a1 a2 b1 b2 w1 w2
  · obtain ⟨a1, a2⟩ := own h1 h2 w
    exact h.out j s o a a1 a2 w
theorem EnvR.wiped {F H : Hp} {ρ : List Addr} {v : Env} {σ : L2.St} (h : EnvR Z F ρ v σ H) : ∀ own : List Nat, EnvR Z F ρ (wipe v own) (L2.wipe σ own) H
  | [] => h
  | i :: is => (EnvR.wiped h is).forget
/-- the slots of a target -/
def slotsP : Pt → List Nat
  | .nm i => [i]
  | .tp is => is
/-- two slot maps that are one but for these slots -/
def But (is : List Nat) (σ σ' : L2.St) : Prop := σ.length = σ'.length ∧ ∀ j, j ∉ is → σ'[j]? = σ[j]?
theorem wipe_get {σ : L2.St} : ∀ {own : List Nat} {j : Nat}, (L2.wipe σ own)[j]? = if j ∈ own ∧ j < σ.length then some none else σ[j]?
  | [], j => by simp [L2.wipe]
  | i :: is, j => by
    show ((L2.wipe σ is).set i none)[j]? = _
    rw [List.getElem?_set]
    by_cases e : i = j
    · subst e
      rw [if_pos rfl, L2.wipe_length]
      by_cases hl : i < σ.length
      · simp [hl]
      · simp [hl, List.getElem?_eq_none (Nat.le_of_not_lt hl)]
    · rw [if_neg e, wipe_get]
      have : (j ∈ i :: is ∧ j < σ.length) ↔ (j ∈ is ∧ j < σ.length) := by simp [Ne.symm e]
      simp only [this]
theorem But.wipe {is own : List Nat} {σ σ' : L2.St} (h : But is σ σ') (hs : ∀ i ∈ is, i ∈ own) : L2.wipe σ' own = L2.wipe σ own := by
  apply List.ext_getElem?
  intro j
  rw [wipe_get, wipe_get, ← h.1]
  by_cases z : j ∈ own ∧ j < σ.length
  · rw [if_pos z, if_pos z]
  · rw [if_neg z, if_neg z]
    by_cases w : j ∈ is
    · have hl : ¬ j < σ.length := fun q => z ⟨hs j w, q⟩
      rw [List.getElem?_eq_none (Nat.le_of_not_lt hl), List.getElem?_eq_none (by rw [← h.1]; exact Nat.le_of_not_lt hl)]
    · exact h.2 j w
theorem wipe_twice {σ : L2.St} {own : List Nat} : L2.wipe (L2.wipe σ own) own = L2.wipe σ own := by
  apply List.ext_getElem?
  intro j
  rw [wipe_get, wipe_get, L2.wipe_length]
  split <;> simp_all
/-- a target that stores -/
def StP (Z : Ci) (p : Pt) (g : TG) : Prop := ∀ (d : D) (v w : Env) (x : V) (σ : L2.St) (F H : Hp) (ρ : List Addr) (S : Sto) (Q : L2.St → Hp → Prop), bindPt p d v = some w → Rep Z F ρ d x → EnvR Z F ρ v σ H → StoR Z F ρ S H →
  (∀ σ', EnvR Z F ρ w σ' H → But (slotsP p) σ σ' → Q σ' H) → g x σ H Q
def OkP (Z : Ci) (X : Cx) (p : Pt) (tg : Expr) (g : TG) : Prop := PG X tg g ∧ StP Z p g
theorem okP_nm {i : Nat} {x : Str} {pos : Pos} (hN : X.N.Nodup) (hi : X.N[i]? = some x) (hx : Loc X.env.scope x) (hf : X.fn x = true ∨ X.env.scope.names.lookup x = some .local) : OkP Z X (.nm i) (.Name x pos) (gName i) := by
  refine ⟨pg_name hN hi hx hf, fun d v w x σ F H ρ S Q hb r he hs k => ?_⟩
  cases hb
  exact k _ (he.put r) ⟨by rw [List.length_set], fun j hj => List.getElem?_set_ne (fun e => hj (by simp [slotsP, e]))⟩
/-- the names of a tuple target -/
inductive TupOk (X : Cx) : List Nat → List Expr → TGs → Prop where
  | nil : TupOk X [] [] gNil
  | cons {i : Nat} {is : List Nat} {x : Str} {pos : Pos} {es : List Expr} {g : TGs} (hi : X.N[i]? = some x) (hx : Loc X.env.scope x) (hf : X.fn x = true ∨ X.env.scope.names.lookup x = some .local) (t : TupOk X is es g) : TupOk X (i :: is) (.Name x pos :: es) (gCons (gName i) g)
theorem TupOk.pgs {is : List Nat} {es : List Expr} {g : TGs} (hN : X.N.Nodup) (h : TupOk X is es g) : PGs X es g := by
  induction h with
  | nil => exact pgs_nil
  | cons hi hx hf t ih => exact pgs_cons (pg_name hN hi hx hf) ih
theorem TupOk.len {is : List Nat} {es : List Expr} {g : TGs} (h : TupOk X is es g) : (assignEach es X.env).length = is.length ∧ (assignEach es X.env).findIdx? (·.1) = none := by
  induction h with
  | nil => exact ⟨rfl, rfl⟩
  | cons hi hx hf t ih =>
    rename_i i is x pos es g
    have e : assignEach (.Name x pos :: es) X.env = (false, assign (.Name x pos) X.env) :: assignEach es X.env := rfl
    rw [e]
    refine ⟨by simp [ih.1], ?_⟩
    rw [List.findIdx?_cons]
    simp [ih.2]
theorem TupOk.run {is : List Nat} {es : List Expr} {g : TGs} (h : TupOk X is es g) : ∀ {ds : List D} {vs : List V} {v w : Env} {σ : L2.St} {F H : Hp} {ρ : List Addr} {Q : L2.St → Hp → Prop}, setAll is ds v = some w → Reps Z F ρ ds vs → EnvR Z F ρ v σ H →
    (∀ σ', EnvR Z F ρ w σ' H → But is σ σ' → Q σ' H) → g vs σ H Q := by
  induction h with
  | nil =>
    intro ds vs v w σ F H ρ Q hw r he k
    cases r with
    | nil => cases hw; exact ⟨rfl, k _ he ⟨rfl, fun _ _ => rfl⟩⟩
    | cons _ _ => cases hw
  | cons hi hx hf t ih =>
    rename_i i is x pos es g
    intro ds vs v w σ F H ρ Q hw r he k
    cases r with
    | nil => cases hw
    | cons r1 r2 =>
      refine ⟨_, _, rfl, ?_⟩
      exact ih (Q := Q) hw r2 (he.put r1) fun σ' he' hb => k σ' he' ⟨by rw [← hb.1, List.length_set], fun j hj => by
        have hj' : j ≠ i ∧ j ∉ is := by simpa using hj
        rw [hb.2 j hj'.2, List.getElem?_set_ne (Ne.symm hj'.1)]⟩
theorem okP_tp {is : List Nat} {es : List Expr} {k : Nat} {pos : Pos} {g : TGs} (hK : X.K = Z.K) (hN : X.N.Nodup) (hc : X.calm = true) (h : TupOk X is es g) : OkP Z X (.tp is) (.Tuple es k pos) (gTup X.K is.length g) := by
  refine ⟨pg_tup hc (h.pgs hN) h.len.1 h.len.2, fun d v w x σ F H ρ S Q hb r he hs q => ?_⟩
  cases r with
  | @tup a vs l h1 r =>
    have hb : setAll is l v = some w := hb
    have hl : ∀ {is : List Nat} {l : List D} {v w : Env}, setAll is l v = some w → l.length = is.length := by
      intro is
      induction is with
      | nil => intro l v w h; cases l with
        | nil => rfl
        | cons _ _ => cases h
      | cons i is ih => intro l v w h; cases l with
        | nil => cases h
        | cons _ l => simp [ih (show setAll is l _ = some w from h)]
    exact ⟨a, vs, rfl, by rw [hK]; exact seqT hs.le h1, by rw [← r.len]; exact hl hb, h.run hb r he fun σ' he' hb' => q σ' he' hb'⟩
  | _ => cases hb
end
end Mi

set_option Elab.async false
set_option linter.all false
set_option maxRecDepth 100000
set_option maxHeartbeats 4000000
/-! Mi, part 12: list comprehensions. -/
namespace Mi
open PySem PySem.Spec PyProof.Rows L2
section
variable {Z : Ci} {W : WX} {G : Ga} {X : Cx}
/-- a comprehension's tests -/
def OkC (X : Cx) (Z : Ci) (W : WX) (G : Ga) : Exo → List Expr → Prop
  | .no, [] => True
  | .yes e, [a] => PT X a (tT Z W G e)
  | _, _ => False
theorem pts_of {c : Exo} {ifs : List Expr} (h : OkC X Z W G c ifs) : PTs X ifs (tG Z W (evc G c) pEq) := by
  cases c with
  | no =>
    cases ifs with
    | nil =>
      refine ⟨fun pins s σ H Q I ⟨F, ρ, v, S, he, hs, hp⟩ => pts_nil.run pins s σ H Q I ?_⟩
      exact PostA.done (P := pEq) (W := W) (σ := σ) (a := true) (by rw [evc] at hp; exact hp) hs rfl
    | cons a b => exact h.elim
  | yes e =>
    cases ifs with
    | nil => exact h.elim
    | cons a b =>
      cases b with
      | nil => exact ⟨fun pins s σ H Q I ⟨F, ρ, v, S, he, hs, hp⟩ => (pts_one h).run pins s σ H Q I ⟨F, ρ, v, S, he, hs, by rw [evc] at hp; exact hp⟩⟩
      | cons _ _ => exact h.elim
theorem Ext.mut {O : Addr → Prop} {F F1 H H1 : Hp} {ρ ρ1 : List Addr} {D : Addr} {o : HO} (e : Ext O F ρ H F1 ρ1 H1) (h : H D = none) : Ext O F ρ H F1 ρ1 (upd H1 D o) := by
  refine ⟨e.le, fun a u q h1 h2 ht => ?_, fun a q => ?_, e.new, e.pre⟩
  · rw [upd_ne (ne_of_none q h)]; exact e.keep a u q h1 h2 ht
  · by_cases z : a = D
    · subst z; exact h
    · rw [upd_ne z] at q; exact e.dom a q
theorem StoR.mut {F H : Hp} {ρ : List Addr} {S : Sto} {D : Addr} {o u : HO} (s : StoR Z F ρ S H) (h : H D = some u) (hu : ∀ kv, u ≠ .dK kv) (hf : F D = none) (hn : NoTab u) : StoR Z F ρ S (upd H D o) := by
  refine ⟨fun a w q => ?_, s.len, s.nd, fun n kv a h1 h2 => ?_, tabs_set s.tab h hn (Same.refl F), s.ftb⟩
  · rw [upd_ne (ne_of_none q hf)]; exact s.le a w q
  · obtain ⟨g, vs, hh, r⟩ := s.at_ n kv a h1 h2
    refine ⟨g, vs, ?_, r⟩
    rw [upd_ne (fun z => by subst z; rw [h] at hh; cases hh; exact hu _ rfl)]
    exact hh
/-- one item of a comprehension -/
def cmF (G : Ga) (e : Ex) (own : List Nat) (p : Pt) (c : Exo) (v : Env) : D → Sto → R (Option D) := fun x S => match bindPt p x (wipe v own) with
  | some w => (evc G c w S).nox.bind fun r S => if r = true then (ev G e w S).nox.bind fun d S => .ok (some d) S else .ok none S
  | none => .bad
theorem ev_comp {e own p it c v S} : ev G (.comp e own p it c) v S = (evt G it v S).bind fun l S => if l.length < SZ then (compL (cmF G e own p c v) l S).bind fun r S => .ok (.lst r) S else .bad := by
  rw [ev]; rfl
theorem compL_cons {f : D → Sto → R (Option D)} {x : D} {l : List D} {S : Sto} : compL f (x :: l) S = (f x S).bind fun r S => (compL f l S).bind fun rs S => match r with
    | some d => .ok (d :: rs) S
    | none => .ok rs S := rfl
theorem tLc_of {e : Ex} {p : Pt} {it : Wk} {c : Exo} {ow : List (Str × Nat)} {g : TG} {σ : L2.St} {H : Hp} {Q : VK} (hp : ∀ i ∈ slotsP p, i ∈ ow.map (·.2)) (hst : StP Z p g) (hq0 : tF Z W (ev G (.comp e (ow.map (·.2)) p it c)) σ H Q) :
    tLc (tI Z W G nO it) g (tG Z W0 (evc G c) pEq) (tE Z W0 G e) (ow.map (·.2)) σ H Q := by
  obtain ⟨F, ρ, v, S, hv, hs0, hq⟩ := hq0
  rw [ev_comp] at hq
  refine ⟨F, ρ, v, S, hv, hs0, (PostA.bind (P := pI Z nO) hq).mono fun l J F1 ρ1 H1 e1 p1 k L hL => ?_⟩
  obtain ⟨l, F1', ρ1', S1, e1', s1, pI1, q1⟩ := k J p1
  generalize hF1 : F1' = F1x at *
  clear p1 e1 k hF1
  have hv1 := hv.ext e1'
  by_cases z : l.length < SZ
  · rw [if_pos z] at q1
    obtain ⟨Gd, Y, w, hGd, hY⟩ := pI1
    have fL : F1x L = none := by
      cases zz : F1x L with
      | none => rfl
      | some u => rw [s1.le L u zz] at hL; cases hL
    have LH : H L = none := e1'.dom L hL
    refine lc_it w (fun i H' => ∃ F' ρ' S' acc accV, Ext nO F1x ρ1' H1 F' ρ' H' ∧ StoR Z F' ρ' S' H' ∧ H' L = some (.lst accV) ∧ F' L = none ∧ Reps Z F' ρ' acc accV ∧ acc.length ≤ i ∧
      PostA Z W ((compL (cmF G e (ow.map (·.2)) p c v) (l.drop i) S').bind fun rs S => R.ok (D.lst (acc ++ rs)) S) (pF Z H) F1x ρ1' σ H1 Q) ?_ ?_ ?_ ?_
    · exact ⟨F1x, ρ1', S1, [], [], Ext.refl.mut hL, s1.made hL, upd_same, fL, .nil, Nat.le_refl _, by simpa using q1⟩
    · rintro i H' _ ⟨F', ρ', S', acc, accV, ee, ss, _⟩
      exact hGd _ _ _ _ ee ss
    · rintro i x H' H'' hi' ⟨F', ρ', S', acc, accV, ee, ss, hL', fL', ra, hl, qq⟩ y
      obtain ⟨F2, d, e2, s2, hd, rd⟩ := hY i H' x H'' F' ρ' S' ee ss hi' y
      have fresh : ∀ {F3 H3 : Hp} {ρ3 : List Addr}, Ext nO F' ρ' H' F3 ρ3 H3 → H3 L = some (.lst accV) ∧ F3 L = none := fun {F3 H3 ρ3} e3 => by
        refine ⟨e3.keep L _ hL' (ss.notin hL' fun _ q => by cases q) (fun q => q) (fun _ z => by cases z), ?_⟩
        cases zz : F3 L with
        | none => rfl
        | some u =>
          rcases e3.new L u zz with q | q | q
          · rw [fL'] at q; cases q
          · rw [hL'] at q; cases q
          · exact q.elim
      have hdr : l.drop i = d :: l.drop (i + 1) := by
        rw [List.drop_eq_getElem_cons hi']
        rw [List.getElem?_eq_getElem hi'] at hd
        rw [Option.some.inj hd]
      rw [hdr, compL_cons] at qq
      cases hb : bindPt p d (wipe v (ow.map (·.2))) with
      | none =>
        have : cmF G e (ow.map (·.2)) p c v d S' = .bad := by unfold cmF; rw [hb]
        rw [this] at qq; exact qq.elim
      | some wv =>
        have ef : cmF G e (ow.map (·.2)) p c v d S' = (evc G c wv S').nox.bind fun r S => if r = true then (ev G e wv S).nox.bind fun d S => .ok (some d) S else .ok none S := by unfold cmF; rw [hb]
        rw [ef] at qq
        have env2 : EnvR Z F2 ρ' (wipe v (ow.map (·.2))) (L2.wipe σ (ow.map (·.2))) H'' := ((hv1.ext ee).ext e2).wiped _
        refine hst d _ wv x _ F2 H'' ρ' S' _ hb rd env2 s2 fun σ2 he2 hbut => ⟨?_, F2, ρ', wv, S', he2, s2, ?_⟩
        · rw [hbut.wipe hp, wipe_twice]
        · cases hcv : evc G c wv S' with
          | bad => rw [hcv] at qq; exact qq.elim
          | ex _ _ _ => rw [hcv] at qq; exact qq.elim
          | ok b S3 =>
            rw [hcv] at qq
            intro b' F3 ρ3 H3 e3 s3 hbb
            obtain rfl : b = b' := hbb
            have e23 := e2.trans e3
            cases b with
            | false =>
              obtain ⟨h1, h2⟩ := fresh e23
              exact ⟨F3, ρ3, S3, acc, accV, ee.trans e23, s3, h1, h2, e23.reps ra, Nat.le_succ_of_le hl, by
                have qq : PostA Z W (((compL (cmF G e (ow.map (·.2)) p c v) (l.drop (i + 1)) S3).bind fun rs S => R.ok rs S).bind fun rs S => R.ok (D.lst (acc ++ rs)) S) (pF Z H) F1x ρ1' σ H1 Q := qq
                cases hz : compL (cmF G e (ow.map (·.2)) p c v) (l.drop (i + 1)) S3 <;> rw [hz] at qq <;> exact qq⟩
            | true =>
              rw [if_pos rfl]
              refine ⟨F3, ρ3, wv, S3, he2.ext e3, s3, ?_⟩
              have qq : PostA Z W ((((ev G e wv S3).nox.bind fun d S => .ok (some d) S).bind fun r S => (compL (cmF G e (ow.map (·.2)) p c v) (l.drop (i + 1)) S).bind fun rs S => match r with
                | some d => R.ok (d :: rs) S
                | none => .ok rs S).bind fun rs S => R.ok (D.lst (acc ++ rs)) S) (pF Z H) F1x ρ1' σ H1 Q := qq
              cases hev : ev G e wv S3 with
              | bad => rw [hev] at qq; exact qq.elim
              | ex _ _ _ => rw [hev] at qq; exact qq.elim
              | ok dd S4 =>
                rw [hev] at qq
                intro y4 F4 ρ4 H4 e4 s4 r4
                have e24 := e23.trans e4
                obtain ⟨h1, h2⟩ := fresh e24
                have hlen : accV.length < sizeLine := by rw [← ra.len, ← sz_line]; omega
                refine ⟨accV, h1, hlen, F4, ρ4, S4, acc ++ [dd], accV ++ [y4], (ee.trans e24).mut hL, s4.mut h1 (fun _ q => by cases q) h2 noTab_lst, upd_same, h2, (e24.reps ra).app (.one r4), by simp; exact hl, ?_⟩
                have qq : PostA Z W (((compL (cmF G e (ow.map (·.2)) p c v) (l.drop (i + 1)) S4).bind fun rs S => R.ok (dd :: rs) S).bind fun rs S => R.ok (D.lst (acc ++ rs)) S) (pF Z H) F1x ρ1' σ H1 Q := qq
                cases hz : compL (cmF G e (ow.map (·.2)) p c v) (l.drop (i + 1)) S4 <;> rw [hz] at qq
                · simpa [R.bind, List.append_assoc] using qq
                · exact qq
                · exact qq
    · rintro H' ⟨F', ρ', S', acc, accV, ee, ss, hL', fL', ra, hl, qq⟩
      rw [List.drop_length] at qq
      have qq : PostA Z W (R.ok (D.lst (acc ++ [])) S') (pF Z H) F1x ρ1' σ H1 Q := qq
      rw [List.append_nil] at qq
      exact qq _ _ _ _ ee ss ⟨acc, L, accV, rfl, rfl, hL', fL', LH, ra⟩
  · rw [if_neg z] at q1; exact q1.elim
theorem sf_comp {e : Ex} {own : List Nat} {p : Pt} {it : Wk} {c : Exo} {elt tg iter : Expr} {ifs : List Expr} {scope : Scope} {ow : List (Str × Nat)} {pos : Pos} {g : TG} (hc : X.calm = true) (hN : X.N.Nodup) (hi : PI X tg iter (tI Z W G nO it)) (ok : BlkOk X.N X.env.scope scope ow)
    (ho : ow.map (·.2) = own) (hp : ∀ i ∈ slotsP p, i ∈ own)
    (hg : ∀ (s : Shared) (H : Hp) (C : Addr) (cl : List (Str × Addr)) (fp : List Addr), PG (X.blk s H scope (compEnvC scope cl C X.env) fp) tg g)
    (ht : ∀ (s : Shared) (H : Hp) (C : Addr) (cl : List (Str × Addr)) (fp : List Addr), OkC (X.blk s H scope (compEnvC scope cl C X.env) fp) Z W0 G c ifs)
    (he : ∀ (s : Shared) (H : Hp) (C : Addr) (cl : List (Str × Addr)) (fp : List Addr), PE (X.blk s H scope (compEnvC scope cl C X.env) fp) elt (tE Z W0 G e)) (hst : StP Z p g) (hs : ∀ x, foldedSetIterable iter X.env x = pure x) :
    PE X (.ListComp elt [⟨tg, iter, ifs, 0⟩] scope pos) (tF Z W (ev G (.comp e own p it c))) := by
  subst ho
  exact (pe_lc hc hN hi ok hg (fun s H C cl fp => pts_of (ht s H C cl fp)) he hs).imp fun σ H Q q => tLc_of hp hst q
end
end Mi

set_option Elab.async false
set_option linter.all false
set_option maxRecDepth 100000
set_option maxHeartbeats 4000000
/-! Mi, part 13: statements. -/
namespace Mi
open PySem PySem.Spec PyProof.Rows L2
/-- a base: what stood at some time, and which addresses may be written since -/
structure Bs where
  O : Addr → Prop
  F : Hp
  ρ : List Addr
  H : Hp
  sf : Addr → Prop
def Kp (B : List Bs) (F : Hp) (ρ : List Addr) (H : Hp) : Prop := ∀ b ∈ B, Ext b.O b.F b.ρ b.H F ρ H
def Mine (B : List Bs) (a : Addr) : Prop := ∀ b ∈ B, b.O a ∨ b.H a = none
structure St0 (Z : Ci) (B : List Bs) (v : Env) (S : Sto) (F : Hp) (ρ : List Addr) (σ : L2.St) (H : Hp) : Prop where
  env : EnvR Z F ρ v σ H
  sto : StoR Z F ρ S H
  ext : Kp B F ρ H
  own : ∀ (i : Nat) (s : Sl) (o : Option V) (a : Addr), v[i]? = some s → σ[i]? = some o → Own s o a → Mine B a
  slf : ∀ b ∈ B, ∀ (i : Nat) (c : Nat) (fs : List D) (a : Addr), v[i]? = some (.sf c fs) → σ[i]? = some (some (.ref a)) → b.sf a
def PostS (Z : Ci) (W : WX) (B : List Bs) (r : R Fl) (E : Ends) : Prop := match r with
  | .ok (.nx v) S => ∀ σ F ρ H, St0 Z B v S F ρ σ H → E.nx σ H
  | .ok (.bk v) S => ∀ σ F ρ H, St0 Z B v S F ρ σ H → E.bk σ H
  | .ok (.ct v) S => ∀ σ F ρ H, St0 Z B v S F ρ σ H → E.ct σ H
  | .ok (.rt d) S => ∀ x F ρ H, Kp B F ρ H → StoR Z F ρ S H → Rep Z F ρ d x → E.rt x H
  | .ex c fs S => ∀ cls dx σ F ρ H, Kp B F ρ H → StoR Z F ρ S H → XRep Z c fs cls dx F ρ H → W cls dx σ H
  | .bad => False
def tS (Z : Ci) (W : WX) (f : Env → Sto → R Fl) : TS := fun E σ H => ∃ B v S F ρ, St0 Z B v S F ρ σ H ∧ PostS Z W B (f v S) E
section
variable {Z : Ci} {W : WX} {G : Ga} {X : Cx} {B : List Bs} {v w : Env} {S S1 : Sto} {F F1 : Hp} {ρ ρ1 : List Addr} {σ : L2.St} {H H1 : Hp} {E : Ends} {α β : Type}
theorem St0.step (st : St0 Z B v S F ρ σ H) (e : Ext nO F ρ H F1 ρ1 H1) (s : StoR Z F1 ρ1 S1 H1) : St0 Z B v S1 F1 ρ1 σ H1 := ⟨st.env.ext e, s, fun b hb => (st.ext b hb).trans e, st.own, st.slf⟩
theorem PostS.bind {r : R α} {k : α → Sto → R Fl} {P : α → β → Hp → List Addr → Hp → Prop} (h : PostS Z W B (r.bind k) E) (st : St0 Z B v S F ρ σ H) :
    PostA Z W r P F ρ σ H fun b H1 => ∃ a F1 ρ1 S1, Ext nO F ρ H F1 ρ1 H1 ∧ P a b F1 ρ1 H1 ∧ St0 Z B v S1 F1 ρ1 σ H1 ∧ PostS Z W B (k a S1) E := by
  cases r with
  | ok a S => exact fun b F' ρ' H' e s p => ⟨a, F', ρ', S, e, p, st.step e s, h⟩
  | ex c fs S => exact fun cls dx F' ρ' H' e s x => h cls dx σ F' ρ' H' (fun b hb => (st.ext b hb).trans e) s x
  | bad => exact h
/-- the body of a loop -/
theorem PostS.body {r : R Fl} {k : Env → Sto → R Fl} {N : L2.St → Hp → Prop} (hN : ∀ v S σ F ρ H, St0 Z B v S F ρ σ H → PostS Z W B (k v S) E → N σ H)
    (h : PostS Z W B (r.bind fun r S => match r with | .nx v => k v S | .ct v => k v S | .bk v => .ok (.nx v) S | .rt d => .ok (.rt d) S) E) : PostS Z W B r { E with nx := N, ct := N, bk := E.nx } := by
  cases r with
  | ok a S =>
    cases a with
    | nx v => exact fun σ F ρ H st => hN v S σ F ρ H st h
    | ct v => exact fun σ F ρ H st => hN v S σ F ρ H st h
    | bk v => exact h
    | rt d => exact h
  | ex c fs S => exact h
  | bad => exact h
theorem PostS.base {r : R Fl} {b : Bs} (h : PostS Z W B r E) : PostS Z W (b :: B) r E := by
  have st0 : ∀ {v : Env} {S : Sto} {F : Hp} {ρ : List Addr} {σ : L2.St} {H : Hp}, St0 Z (b :: B) v S F ρ σ H → St0 Z B v S F ρ σ H := fun st => ⟨st.env, st.sto, fun c hc => st.ext c (List.mem_cons_of_mem _ hc), fun i s o a h1 h2 h3 c hc => st.own i s o a h1 h2 h3 c (List.mem_cons_of_mem _ hc), fun c hc => st.slf c (List.mem_cons_of_mem _ hc)⟩
  cases r with
  | ok a S =>
    cases a with
    | nx v => exact fun σ F ρ H st => h σ F ρ H (st0 st)
    | ct v => exact fun σ F ρ H st => h σ F ρ H (st0 st)
    | bk v => exact fun σ F ρ H st => h σ F ρ H (st0 st)
    | rt d => exact fun x F ρ H k => h x F ρ H fun c hc => k c (List.mem_cons_of_mem _ hc)
  | ex c fs S => exact fun cls dx σ F ρ H k => h cls dx σ F ρ H fun c hc => k c (List.mem_cons_of_mem _ hc)
  | bad => exact h
theorem St0.drop {b : Bs} (st : St0 Z (b :: B) v S F ρ σ H) : St0 Z B v S F ρ σ H := ⟨st.env, st.sto, fun c hc => st.ext c (List.mem_cons_of_mem _ hc), fun i s o a h1 h2 h3 c hc => st.own i s o a h1 h2 h3 c (List.mem_cons_of_mem _ hc), fun c hc => st.slf c (List.mem_cons_of_mem _ hc)⟩
theorem PostS.bodyB {b : Bs} {r : R Fl} {k : Env → Sto → R Fl} {N : L2.St → Hp → Prop} (hN : ∀ v S σ F ρ H, St0 Z (b :: B) v S F ρ σ H → PostS Z W B (k v S) E → N σ H)
    (h : PostS Z W B (r.bind fun r S => match r with | .nx v => k v S | .ct v => k v S | .bk v => .ok (.nx v) S | .rt d => .ok (.rt d) S) E) : PostS Z W (b :: B) r { E with nx := N, ct := N, bk := E.nx } := by
  cases r with
  | ok a S =>
    cases a with
    | nx v => exact fun σ F ρ H st => hN v S σ F ρ H st h
    | ct v => exact fun σ F ρ H st => hN v S σ F ρ H st h
    | bk v => exact fun σ F ρ H st => h σ F ρ H st.drop
    | rt d => exact fun x F ρ H k => h x F ρ H fun c hc => k c (List.mem_cons_of_mem _ hc)
  | ex c fs S => exact fun cls dx σ F ρ H k => h cls dx σ F ρ H fun c hc => k c (List.mem_cons_of_mem _ hc)
  | bad => exact h
/-- one turn of a for -/
def forF (G : Ga) (p : Pt) (b : Sms) : D → Env → Sto → R Fl := fun x v S => match bindPt p x v with
  | some w => xss G b w S
  | none => .bad
theorem xs1_for {p it b S} {v : Env} : xs1 G (.for_ p it b) v S = (evt G it v S).bind fun l S => forL (forF G p b) l v S := by rw [xs1]; rfl
theorem tS.eq {f g : Env → Sto → R Fl} (h : tS Z W f E σ H) (e : ∀ v S, f v S = g v S) : tS Z W g E σ H := by
  obtain ⟨B, v, S, F, ρ, st, hp⟩ := h
  exact ⟨B, v, S, F, ρ, st, by rw [← e]; exact hp⟩
/-- an expression, then the rest -/
theorem tS.bind {f : Env → Sto → R α} {k : α → Env → Sto → R Fl} {P : α → β → Hp → List Addr → Hp → Prop} (h : tS Z W (fun v S => (f v S).bind fun a S => k a v S) E σ H) :
    tG Z W f P σ H fun b H1 => ∃ a B v1 S1 F1 ρ1, P a b F1 ρ1 H1 ∧ St0 Z B v1 S1 F1 ρ1 σ H1 ∧ PostS Z W B (k a v1 S1) E := by
  obtain ⟨B, v, S, F, ρ, st, hp⟩ := h
  exact ⟨F, ρ, v, S, st.env, st.sto, (hp.bind st).mono fun a b F' ρ' H' e p g => by
    obtain ⟨a', F1, ρ1, S1, e1, p1, s1, q⟩ := g b p
    exact ⟨a', B, v, S1, F1, ρ1, p1, s1, q⟩⟩

/-! ### slots written -/
/-- the list at a is nobody's -/
def Free (v : Env) (σ : L2.St) (a : Addr) : Prop := ∀ (j : Nat) (t : Sl) (o : Option V), v[j]? = some t → σ[j]? = some o → ¬ Own t o a
/-- what a slot gets -/
def SlN (Z : Ci) (B : List Bs) (F : Hp) (ρ : List Addr) (v : Env) (σ : L2.St) (H : Hp) (s : Sl) (x : V) : Prop := match s with
  | .va d => Rep Z F ρ d x
  | .ol l => ∃ a vs, x = .ref a ∧ H a = some (.lst vs) ∧ F a = none ∧ Reps Z F ρ l vs ∧ Mine B a ∧ Free v σ a
  | _ => False
theorem set_cases {α : Type} {l : List α} {i j : Nat} {x y : α} (h : (l.set i x)[j]? = some y) : (j = i ∧ y = x) ∨ (j ≠ i ∧ l[j]? = some y) := by
  by_cases e : i = j
  · subst e
    rw [List.getElem?_set, if_pos rfl] at h
    split at h
    · exact .inl ⟨rfl, (Option.some.inj h).symm⟩
    · cases h
  · rw [List.getElem?_set_ne e] at h; exact .inr ⟨fun z => e z.symm, h⟩
theorem St0.put {i : Nat} {s : Sl} {x : V} (st : St0 Z B v S F ρ σ H) (n : SlN Z B F ρ v σ H s x) : St0 Z B (setN v i s) S F ρ (σ.set i (some x)) H := by
  rw [setN_eq]
  have ow : ∀ {a : Addr}, Own s (some x) a → ∃ l vs, s = .ol l ∧ H a = some (.lst vs) ∧ Mine B a ∧ Free v σ a := by
    rintro a ⟨w1, w2⟩
    cases s with
    | ol l => obtain ⟨b, vs, rfl, h1, h2, h3, h4, h5⟩ := n; cases w2; exact ⟨l, vs, rfl, h1, h4, h5⟩
    | un => exact w1.elim
    | va d => exact w1.elim
    | sf c fs => exact n.elim
  refine ⟨⟨by rw [List.length_set, List.length_set]; exact st.env.len, fun j t o h1 h2 => ?_, fun j k t u o p a h1 h2 h3 h4 w1 w2 => ?_, fun j t o a h1 h2 w => ?_⟩, st.sto, st.ext, fun j t o a h1 h2 w => ?_, fun b hb j c fs a h1 h2 => ?_⟩
  · rcases set_cases h1 with ⟨e, rfl⟩ | ⟨e, h1⟩ <;> rcases set_cases h2 with ⟨e', rfl⟩ | ⟨e', h2⟩
    · cases t with
      | va d => exact ⟨x, rfl, n⟩
      | ol l => obtain ⟨b, vs, rfl, g1, g2, g3, g4, g5⟩ := n; exact ⟨b, vs, rfl, g1, g2, g3⟩
      | un => exact n.elim
      | sf c fs => exact n.elim
    · exact (e' e).elim
    · exact (e e').elim
    · exact st.env.at_ j t o h1 h2
  · rcases set_cases h1 with ⟨e1, q1⟩ | ⟨e1, q1⟩ <;> rcases set_cases h2 with ⟨e2, q2⟩ | ⟨e2, q2⟩ <;> rcases set_cases h3 with ⟨e3, q3⟩ | ⟨e3, q3⟩ <;> rcases set_cases h4 with ⟨e4, q4⟩ | ⟨e4, q4⟩
    all_goals first
      | exact (e2 e1).elim
      | exact (e1 e2).elim
      | exact (e4 e3).elim
      | exact (e3 e4).elim
      | skip
    · rw [e1, e3]
    · rw [q1, q2] at w1; obtain ⟨_, _, _, _, _, fr⟩ := ow w1; exact (fr k u p q3 q4 w2).elim
    · rw [q3, q4] at w2; obtain ⟨_, _, _, _, _, fr⟩ := ow w2; exact (fr j t o q1 q2 w1).elim
    · exact st.env.inj j k t u o p a q1 q2 q3 q4 w1 w2
  · rcases set_cases h1 with ⟨e1, rfl⟩ | ⟨e1, h1⟩ <;> rcases set_cases h2 with ⟨e2, rfl⟩ | ⟨e2, h2⟩
    · obtain ⟨_, vs, _, hh, _, _⟩ := ow w; exact st.sto.notin hh fun _ z => by cases z
    · exact (e2 e1).elim
    · exact (e1 e2).elim
    · exact st.env.out j t o a h1 h2 w
  · rcases set_cases h1 with ⟨e1, rfl⟩ | ⟨e1, h1⟩ <;> rcases set_cases h2 with ⟨e2, rfl⟩ | ⟨e2, h2⟩
    · obtain ⟨_, _, _, _, m, _⟩ := ow w; exact m
    · exact (e2 e1).elim
    · exact (e1 e2).elim
    · exact st.own j t o a h1 h2 w
  · rcases set_cases h1 with ⟨e1, q⟩ | ⟨e1, q⟩
    · subst q; exact n.elim
    · rcases set_cases h2 with ⟨e2, _⟩ | ⟨e2, h2⟩
      · exact (e1 e2).elim
      · exact st.slf b hb j c fs a q h2
/-- a slot's own object is written -/
theorem St0.mut {i : Nat} {s t : Sl} {o : Option V} {a : Addr} {u u' : HO} (st : St0 Z B v S F ρ σ H) (hv : v[i]? = some s) (hs : σ[i]? = some o) (w : Own s o a) (hu : H a = some u) (nd : ∀ kv, u ≠ .dK kv) (ht : ∀ b, Own t o b → b = a) (hsf : ∀ c fs, t = .sf c fs → ∃ c' fs', s = .sf c' fs') (new : SlR Z F ρ (upd H a u') t o) :
    St0 Z B (setN v i t) S F ρ σ (upd H a u') := by
  rw [setN_eq]
  obtain ⟨_, h0, hf⟩ := (st.env.at_ i s o hv hs).own w
  have at_ : ∀ {j : Nat} {x : Sl} {p : Option V}, j ≠ i → v[j]? = some x → σ[j]? = some p → SlR Z F ρ (upd H a u') x p := by
    intro j x p hj h1 h2
    have ne : ∀ b, Own x p b → b ≠ a := fun b wb e => hj (st.env.inj j i x s p o a h1 h2 hv hs (e ▸ wb) w)
    have q := st.env.at_ j x p h1 h2
    cases x with
    | un => trivial
    | va d => exact q
    | ol l => obtain ⟨b, vs, rfl, g1, g2, g3⟩ := q; exact ⟨b, vs, rfl, by rw [upd_ne (ne b ⟨trivial, rfl⟩)]; exact g1, g2, g3⟩
    | sf c fs => obtain ⟨b, dx, vs, rfl, g1, g2, g3, g4⟩ := q; exact ⟨b, dx, vs, rfl, by rw [upd_ne (ne b ⟨trivial, rfl⟩)]; exact g1, g2, g3, g4⟩
  have ow : ∀ {j : Nat} {x : Sl} {p : Option V} {b : Addr}, (v.set i t)[j]? = some x → σ[j]? = some p → Own x p b → ∃ y, v[j]? = some y ∧ Own y p b := by
    intro j x p b h1 h2 wb
    rcases set_cases h1 with ⟨e, rfl⟩ | ⟨e, h1⟩
    · subst e
      rw [hs] at h2; cases h2
      obtain rfl := ht b wb
      exact ⟨s, hv, w⟩
    · exact ⟨x, h1, wb⟩
  refine ⟨⟨by rw [List.length_set]; exact st.env.len, fun j x p h1 h2 => ?_, fun j k x y p q b h1 h2 h3 h4 w1 w2 => ?_, fun j x p b h1 h2 wb => ?_⟩, st.sto.mut hu nd hf ((st.env.at_ i s o hv hs).noTab w hu), fun b hb => ?_, fun j x p b h1 h2 wb => ?_, fun b hb j c fs a' h1 h2 => ?_⟩
  · rcases set_cases h1 with ⟨e, rfl⟩ | ⟨e, h1⟩
    · subst e; rw [hs] at h2; cases h2; exact new
    · exact at_ e h1 h2
  · obtain ⟨y1, g1, g2⟩ := ow h1 h2 w1
    obtain ⟨y2, g3, g4⟩ := ow h3 h4 w2
    exact st.env.inj j k y1 y2 p q b g1 h2 g3 h4 g2 g4
  · obtain ⟨y1, g1, g2⟩ := ow h1 h2 wb
    exact st.env.out j y1 p b g1 h2 g2
  · have e := st.ext b hb
    have m := st.own i s o a hv hs w b hb
    refine ⟨e.le, fun c x q h1 h2 ht => ?_, fun c q => ?_, e.new, e.pre⟩
    · rw [upd_ne (fun z => by subst z; rcases m with m | m; exact h2 m; rw [q] at m; cases m)]; exact e.keep c x q h1 h2 ht
    · by_cases z : c = a
      · subst z; rw [upd_same] at q; cases q
      · rw [upd_ne z] at q; exact e.dom c q
  · obtain ⟨y1, g1, g2⟩ := ow h1 h2 wb
    exact st.own j y1 p b g1 h2 g2
  · rcases set_cases h1 with ⟨e, q⟩ | ⟨e, q⟩
    · obtain ⟨c', fs', rfl⟩ := hsf c fs q.symm
      subst e
      exact st.slf b hb j c' fs' a' hv h2
    · exact st.slf b hb j c fs a' q h2
/-- a list of one's own stands still from now on -/
theorem St0.frz {i : Nat} {l : List D} (st : St0 Z B v S F ρ σ H) (hv : getN v i = some (.ol l)) : ∃ F', St0 Z B (setN v i (.va (.lst l))) S F' ρ σ H := by
  obtain ⟨o, hs, a, vs, rfl, h1, h2, r⟩ := st.env.get hv
  rw [getN_eq] at hv
  have le : Same F (upd F a (.lst vs)) := fun b u q => by rw [upd_ne (ne_of_none q h2)]; exact q
  have mo : ∀ {l : List D} {ws : List V}, Reps Z F ρ l ws → Reps Z (upd F a (.lst vs)) ρ l ws := fun r => by
    have := Reps.mono (m := []) le r
    rwa [List.append_nil] at this
  have mo1 : ∀ {d : D} {x : V}, Rep Z F ρ d x → Rep Z (upd F a (.lst vs)) ρ d x := fun r => by
    have := Rep.mono (m := []) le r
    rwa [List.append_nil] at this
  have no : ∀ {j : Nat} {x : Sl} {p : Option V} {b : Addr}, j ≠ i → v[j]? = some x → σ[j]? = some p → Own x p b → b ≠ a := fun hj g1 g2 w e => hj (st.env.inj _ i _ _ _ _ a g1 g2 hv hs (e ▸ w) ⟨trivial, rfl⟩)
  refine ⟨upd F a (.lst vs), ?_⟩
  rw [setN_eq]
  have ow : ∀ {j : Nat} {x : Sl} {p : Option V} {b : Addr}, (v.set i (.va (.lst l)))[j]? = some x → Own x p b → j ≠ i ∧ v[j]? = some x := by
    intro j x p b g1 w
    rcases set_cases g1 with ⟨e, q⟩ | ⟨e, q⟩
    · subst q; exact w.1.elim
    · exact ⟨e, q⟩
  refine ⟨⟨by rw [List.length_set]; exact st.env.len, fun j x p g1 g2 => ?_, fun j k x y p q b g1 g2 g3 g4 w1 w2 => ?_, fun j x p b g1 g2 w => ?_⟩, ⟨fun b u q => ?_, st.sto.len, st.sto.nd, fun n kv b g1 g2 => ?_, tabs_up st.sto.tab le (fun _ _ q => q), ftb_lst st.sto.ftb⟩, fun b hb => ?_, fun j x p b g1 g2 w => ?_, fun b hb j c fs a' g1 g2 => ?_⟩
  · rcases set_cases g1 with ⟨e, q⟩ | ⟨e, q⟩
    · subst e q
      rw [hs] at g2; cases g2
      exact ⟨_, rfl, .lst (.inl upd_same) (mo r)⟩
    · have z := st.env.at_ j x p q g2
      cases x with
      | un => trivial
      | va d => obtain ⟨y, rfl, ry⟩ := z; exact ⟨y, rfl, mo1 ry⟩
      | ol m => obtain ⟨b, ws, rfl, f1, f2, f3⟩ := z; exact ⟨b, ws, rfl, f1, by rw [upd_ne (no e q g2 ⟨trivial, rfl⟩)]; exact f2, mo f3⟩
      | sf c fs => obtain ⟨b, dx, ws, rfl, f1, f2, f3, f4⟩ := z; exact ⟨b, dx, ws, rfl, f1, f2, by rw [upd_ne (no e q g2 ⟨trivial, rfl⟩)]; exact f3, mo f4⟩
  · exact st.env.inj j k x y p q b (ow g1 w1).2 g2 (ow g3 w2).2 g4 w1 w2
  · exact st.env.out j x p b (ow g1 w).2 g2 w
  · by_cases z : b = a
    · subst z; rw [upd_same] at q; cases q; exact h1
    · rw [upd_ne z] at q; exact st.sto.le b u q
  · obtain ⟨f1, ws, f2, f3⟩ := st.sto.at_ n kv b g1 g2
    exact ⟨by rw [upd_ne (fun z => by subst z; rw [h1] at f2; cases f2)]; exact f1, ws, f2, mo f3⟩
  · have e := st.ext b hb
    refine ⟨e.le.trans le, e.keep, e.dom, fun c u q => ?_, e.pre⟩
    by_cases z : c = a
    · subst z
      rcases st.own i _ _ c hv hs ⟨trivial, rfl⟩ b hb with m | m
      · exact .inr (.inr m)
      · exact .inr (.inl m)
    · rw [upd_ne z] at q; exact e.new c u q
  · exact st.own j x p b (ow g1 w).2 g2 w
  · rcases set_cases g1 with ⟨e, q⟩ | ⟨e, q⟩
    · cases q
    · exact st.slf b hb j c fs a' q g2
/-- the lists of one's own, by their slots -/
def ownA (v : Env) (σ : L2.St) : Addr → Prop := fun a => ∃ (i : Nat) (s : Sl) (o : Option V), v[i]? = some s ∧ σ[i]? = some o ∧ Own s o a

/-! ### simple statements -/
theorem ss_frz {i : Nat} {ss : Sms} {sts : List Stmt} (h : PSs X sts (tS Z W (xss G ss))) : PSs X sts (tS Z W (xss G (.cons (.frz i) ss))) := h.imp fun E σ H ⟨B, v, S, F, ρ, s0, hp⟩ => by
  rw [xss, xs1] at hp
  cases q : getN v i with
  | none => rw [q] at hp; exact hp.elim
  | some s =>
    rw [q] at hp
    cases s with
    | ol l => obtain ⟨F', s1⟩ := s0.frz q; exact ⟨B, _, S, F', ρ, s1, hp⟩
    | _ => exact hp.elim
theorem ss_nil : PSs X [] (tS Z W (xss G .nil)) := pss_nil.imp fun E σ H ⟨B, v, S, F, ρ, s0, hp⟩ => by
  rw [xss] at hp; exact hp σ F ρ H s0
theorem ss_cons {s : Sm} {ss : Sms} {a : Stmt} {r : List Stmt} (h : PS X a (tS Z W (xs1 G s))) (hr : PSs X r (tS Z W (xss G ss))) : PSs X (a :: r) (tS Z W (xss G (.cons s ss))) := (pss_cons h hr).imp fun E σ H ⟨B, v, S, F, ρ, s0, hp⟩ => by
  refine ⟨B, v, S, F, ρ, s0, ?_⟩
  rw [xss] at hp
  cases q : xs1 G s v S with
  | ok a S1 =>
    rw [q] at hp
    cases a with
    | nx v1 => exact fun σ1 F1 ρ1 H1 s1 => ⟨B, v1, S1, F1, ρ1, s1, hp⟩
    | bk v1 => exact hp
    | ct v1 => exact hp
    | rt d => exact hp
  | ex c fs S1 => rw [q] at hp; exact hp
  | bad => rw [q] at hp; exact hp.elim
theorem ss_pass {pos} : PS X (.Pass pos) (tS Z W (xs1 G .pass)) := ps_pass.imp fun E σ H ⟨B, v, S, F, ρ, s0, hp⟩ => by rw [xs1] at hp; exact hp σ F ρ H s0
theorem ss_brk {pos} : PS X (.Break pos) (tS Z W (xs1 G .brk)) := ps_break.imp fun E σ H ⟨B, v, S, F, ρ, s0, hp⟩ => by rw [xs1] at hp; exact hp σ F ρ H s0
theorem ss_cnt {pos} : PS X (.Continue pos) (tS Z W (xs1 G .cnt)) := ps_continue.imp fun E σ H ⟨B, v, S, F, ρ, s0, hp⟩ => by rw [xs1] at hp; exact hp σ F ρ H s0
theorem ss_retN {pos} : PS X (.Return none pos) (tS Z W (xs1 G .retN)) := ps_retN.imp fun E σ H ⟨B, v, S, F, ρ, s0, hp⟩ => by rw [xs1] at hp; exact hp _ F ρ H s0.ext s0.sto .non
theorem ss_never {st : Stmt} : PS X st (tS Z W (xs1 G .never)) := (ps_never (st := st)).imp fun E σ H ⟨B, v, S, F, ρ, s0, hp⟩ => by rw [xs1] at hp; exact hp.elim
theorem ss_doc {x j pos pos'} {ss : Sms} {r : List Stmt} (h : PSs X r (tS Z W (xss G ss))) : PSs X (.Expr (.Constant (.str x) j pos) pos' :: r) (tS Z W (xss G ss)) := (pss_cons ps_doc h).imp fun E σ H q => q
theorem ss_ret {e : Ex} {a : Expr} {pos} (h : PE X a (tE Z W G e)) : PS X (.Return (some a) pos) (tS Z W (xs1 G (.ret e))) := (ps_ret h).imp fun E σ H q => by
  refine (tS.bind (P := pV Z) (f := ev G e) (k := fun d _ S => R.ok (Fl.rt d) S) (q.eq fun v S => by rw [xs1])).wk fun x H1 ⟨d, B, v1, S1, F1, ρ1, p, s1, q1⟩ => ?_
  exact q1 x F1 ρ1 H1 s1.ext s1.sto p
theorem ss_exp {e : Ex} {a : Expr} {pos} (h : PE X a (tE Z W G e)) (hs : swapsWith a none pos.line X.env = pure false) : PS X (.Expr a pos) (tS Z W (xs1 G (.exp e))) := (ps_expr h hs).imp fun E σ H q => by
  refine (tS.bind (P := pV Z) (f := ev G e) (k := fun _ v S => R.ok (Fl.nx v) S) (q.eq fun v S => by rw [xs1])).wk fun x H1 ⟨d, B, v1, S1, F1, ρ1, p, s1, q1⟩ => ?_
  exact q1 σ F1 ρ1 H1 s1
theorem ss_asg {i : Nat} {e : Ex} {st : Stmt} (h : PS X st (tAsg (tE Z W G e) (gName i))) : PS X st (tS Z W (xs1 G (.asg i e))) := h.imp fun E σ H q => by
  refine (tS.bind (P := pV Z) (f := ev G e) (k := fun d v S => R.ok (Fl.nx (setN v i (.va d))) S) (q.eq fun v S => by rw [xs1])).wk fun x H1 ⟨d, B, v1, S1, F1, ρ1, p, s1, q1⟩ => ?_
  exact q1 _ F1 ρ1 H1 (s1.put p)
theorem St0.fresh (st : St0 Z B v S F ρ σ H) {F1 H1 : Hp} {ρ1 : List Addr} (e : Ext nO F ρ H F1 ρ1 H1) {l : List D} {x : V} (p : ∃ a vs, x = .ref a ∧ H1 a = some (.lst vs) ∧ F1 a = none ∧ H a = none ∧ Reps Z F1 ρ1 l vs) : SlN Z B F1 ρ1 v σ H1 (.ol l) x := by
  obtain ⟨a, vs, rfl, h1, h2, h3, r⟩ := p
  refine ⟨a, vs, rfl, h1, h2, r, fun b hb => .inr ((st.ext b hb).dom a h3), fun j t o g1 g2 w => ?_⟩
  obtain ⟨u, hu, _⟩ := (st.env.at_ j t o g1 g2).own w
  rw [h3] at hu; cases hu
theorem ss_own {i : Nat} {e : Ex} {st : Stmt} (hf : isFresh e = true) (h : PS X st (tAsg (tF Z W (ev G e)) (gName i))) : PS X st (tS Z W (xs1 G (.own i e))) := h.imp fun E σ H ⟨B, v, S, F, ρ, s0, hp⟩ => by
  rw [xs1] at hp
  refine ⟨F, ρ, v, S, s0.env, s0.sto, (PostS.bind (P := pF Z H) hp s0).mono fun d x F1 ρ1 H1 e1 p k => ?_⟩
  obtain ⟨d, F2, ρ2, S2, e2, ⟨l, a, vs, rfl, rfl, p1, p2, p3, p4⟩, s2, q⟩ := k x p
  have q : PostS Z W B (match slotOf true e (.lst l) with | some s => R.ok (Fl.nx (setN v i s)) S2 | none => .bad) E := q
  unfold slotOf at q
  simp only [hf, if_true] at q
  exact q _ _ _ _ (s2.put (s0.fresh e2 ⟨a, vs, rfl, p1, p2, p3, p4⟩))
theorem bindPt_get : ∀ {p : Pt} {d : D} {v w : Env}, bindPt p d v = some w → ∀ j s, w[j]? = some s → (∃ d, s = .va d) ∨ (j ∉ slotsP p ∧ v[j]? = some s)
  | .nm i, d, v, w, h, j, s, hj => by
    cases h
    rw [setN_eq] at hj
    rcases set_cases hj with ⟨_, q⟩ | ⟨e, q⟩
    · exact .inl ⟨_, q⟩
    · exact .inr ⟨by simpa [slotsP] using e, q⟩
  | .tp is, d, v, w, h, j, s, hj => by
    have key : ∀ (is : List Nat) (l : List D) (v w : Env), setAll is l v = some w → ∀ j s, w[j]? = some s → (∃ d, s = .va d) ∨ (j ∉ is ∧ v[j]? = some s) := by
      intro is
      induction is with
      | nil => intro l v w h j s hj; cases l with
        | nil => cases h; exact .inr ⟨by simp, hj⟩
        | cons _ _ => cases h
      | cons i is ih => intro l v w h j s hj; cases l with
        | nil => cases h
        | cons d l =>
          rcases ih l _ w h j s hj with q | ⟨q1, q2⟩
          · exact .inl q
          · rw [setN_eq] at q2
            rcases set_cases q2 with ⟨_, z⟩ | ⟨z1, z2⟩
            · exact .inl ⟨_, z⟩
            · exact .inr ⟨by simp [z1, q1], z2⟩
    cases d with
    | tup l => exact key is l v w h j s hj
    | _ => cases h
/-- a target's store -/
theorem St0.bindP {p : Pt} {g : TG} {d : D} {x : V} (hg : StP Z p g) (st : St0 Z B v S F ρ σ H) (hb : bindPt p d v = some w) (r : Rep Z F ρ d x) {Q : L2.St → Hp → Prop} (k : ∀ σ', St0 Z B w S F ρ σ' H → Q σ' H) : g x σ H Q := by
  refine hg d v w x σ F H ρ S Q hb r st.env st.sto fun σ' he hbut => k σ' ⟨he, st.sto, st.ext, fun j s o a h1 h2 wn => ?_, fun b hb' j c fs a h1 h2 => ?_⟩
  · rcases bindPt_get hb j s h1 with ⟨d, rfl⟩ | ⟨q1, q2⟩
    · exact wn.1.elim
    · exact st.own j s o a q2 (by rw [← hbut.2 j q1]; exact h2) wn
  · rcases bindPt_get hb j _ h1 with ⟨d, q⟩ | ⟨q1, q2⟩
    · cases q
    · exact st.slf b hb' j c fs a q2 (by rw [← hbut.2 j q1]; exact h2)
theorem ss_asgT {is : List Nat} {e : Ex} {st : Stmt} {g : TG} (hg : StP Z (.tp is) g) (h : PS X st (tAsg (tE Z W G e) g)) : PS X st (tS Z W (xs1 G (.asgT is e))) := h.imp fun E σ H q => by
  refine (tS.bind (P := pV Z) (f := ev G e) (k := fun d v S => match bindPt (.tp is) d v with | some w => R.ok (Fl.nx w) S | none => .bad) (q.eq fun v S => by rw [xs1] <;> rfl)).wk fun x H1 ⟨d, B, v1, S1, F1, ρ1, p, s1, q1⟩ => ?_
  cases hb : bindPt (.tp is) d v1 with
  | none => rw [hb] at q1; exact q1.elim
  | some w => rw [hb] at q1; exact s1.bindP hg hb p fun σ' s2 => q1 σ' F1 ρ1 H1 s2
theorem ss_iff {c : Ex} {a b : Sms} {x : Expr} {sa sb : List Stmt} {pos} (hc : PT X x (tT Z W G c)) (ha : PSs X sa (tS Z W (xss G a))) (hb : PSs X sb (tS Z W (xss G b))) : PS X (.If x sa sb pos) (tS Z W (xs1 G (.iff c a b))) := (ps_if hc ha hb).imp fun E σ H q => by
  refine (tS.bind (P := pEq) (f := fun v S => (ev G c v S).bind asB) (k := fun r v S => if r = true then xss G a v S else xss G b v S) (q.eq fun v S => by rw [xs1, R.bind_assoc] <;> rfl)).wk fun x H1 ⟨d, B, v1, S1, F1, ρ1, p, s1, q1⟩ => ?_
  obtain rfl : d = x := p
  cases d with
  | true => exact ⟨B, v1, S1, F1, ρ1, s1, q1⟩
  | false => exact ⟨B, v1, S1, F1, ρ1, s1, q1⟩
/-! ### loops -/
theorem ss_whl {c : Ex} {b : Sms} {x : Expr} {body : List Stmt} {pos} (hp : PassesOwn (model X.prog X.w) X.A X.env X.xe) (hc : PT X x (tT Z W G c)) (hb : PSs X body (tS Z W (xss G b))) : PS X (.While x body [] pos) (tS Z W (xs1 G (.whl c b))) := (ps_while hp hc hb).imp fun E σ H ⟨B, v, S, F, ρ, s0, hq⟩ => by
  rw [xs1] at hq
  refine ⟨fun m σ H => ∃ v S F ρ, St0 Z B v S F ρ σ H ∧ PostS Z W B (whlL (fun v S => (ev G c v S).bind fun x S => asB x S) (fun v S => xss G b v S) m v S) E, ⟨G.fuel, v, S, F, ρ, s0, hq⟩, ?_⟩
  clear hq s0 v S F ρ
  rintro m σ H ⟨v, S, F, ρ, s0, hq⟩
  cases m with
  | zero => exact hq.elim
  | succ m =>
    unfold whlL at hq
    refine ⟨F, ρ, v, S, s0.env, s0.sto, (PostS.bind (P := pEq) hq s0).mono fun d x F1 ρ1 H1 e1 p k => ?_⟩
    obtain ⟨r, F2, ρ2, S2, e2, p2, s2, q⟩ := k x p
    obtain rfl : r = x := p2
    cases r with
    | false => simp only [Bool.false_eq_true, if_false] at q ⊢; exact q σ _ _ _ s2
    | true =>
      simp only [if_true] at q ⊢
      refine ⟨fun σ H => ∃ v S F ρ, St0 Z B v S F ρ σ H ∧ PostS Z W B (whlL (fun v S => (ev G c v S).bind fun x S => asB x S) (fun v S => xss G b v S) m v S) E, fun σ' H' n => ⟨m, Nat.lt_succ_self m, n⟩, B, v, S2, F2, ρ2, s2, ?_⟩
      exact q.body fun v S σ F ρ H st hk => ⟨v, S, F, ρ, st, hk⟩
theorem ss_for {p : Pt} {it : Wk} {b : Sms} {tg iter : Expr} {body : List Stmt} {pos} {g : TG} (hp : PassesOwn (model X.prog X.w) X.A X.env X.xe) (hc : X.calm = true) (hi : ∀ O, PI X tg iter (tI Z W G O it)) (hpg : PG X tg g) (hg : StP Z p g) (hb : PSs X body (tS Z W (xss G b)))
    (hs : ∀ x, foldedSetIterable iter X.env x = pure x) : PS X (.For tg iter body [] pos) (tS Z W (xs1 G (.for_ p it b))) := by
  have hio : PI X tg iter (fun σ H R => ∃ O, tI Z W G O it σ H R) := ⟨fun pins s σ H R I ⟨O, h⟩ => (hi O).run pins s σ H R I h⟩
  refine (ps_for hp hc hio hpg hb hs).imp fun E σ H ⟨B, v, S, F, ρ, s0, hq⟩ => ?_
  rw [xs1_for] at hq
  refine ⟨ownA v σ, F, ρ, v, S, s0.env, s0.sto, (PostS.bind (P := pI Z (ownA v σ)) hq s0).mono fun l J F1 ρ1 H1 e1 p1 k => ?_⟩
  obtain ⟨l, F1, ρ1, S1, e1, ⟨Gd, Y, w, hGd, hY⟩, s1, q1⟩ := k J p1
  refine for_it w (fun i σ' H' => ∃ v' S' F' ρ', St0 Z (⟨ownA v σ, F1, ρ1, H1, fun _ => True⟩ :: B) v' S' F' ρ' σ' H' ∧ PostS Z W B (forL (forF G p b) (l.drop i) v' S') E) ?_ ?_ ?_ ?_
  · refine ⟨v, S1, F1, ρ1, ⟨s1.env, s1.sto, fun c hc => ?_, fun i s o a h1 h2 h3 c hc => ?_, fun c hc => ?_⟩, by simpa using q1⟩
    · rcases List.mem_cons.mp hc with rfl | hc
      · exact .refl
      · exact s1.ext c hc
    · rcases List.mem_cons.mp hc with rfl | hc
      · exact .inl ⟨i, s, o, h1, h2, h3⟩
      · exact s1.own i s o a h1 h2 h3 c hc
    · rcases List.mem_cons.mp hc with rfl | hc
      · exact fun _ _ _ _ _ _ => trivial
      · exact s1.slf c hc
  · rintro i σ' H' _ ⟨v', S', F', ρ', st, _⟩
    exact hGd _ _ _ _ (st.ext _ List.mem_cons_self) st.sto
  · rintro i x σ' H' H'' hi' ⟨v', S', F', ρ', st, hf⟩ y
    obtain ⟨F2, d, e2, s2, hd, rd⟩ := hY i H' x H'' F' ρ' S' (st.ext _ List.mem_cons_self) st.sto hi' y
    have hdr : l.drop i = d :: l.drop (i + 1) := by
      rw [List.drop_eq_getElem_cons hi']
      rw [List.getElem?_eq_getElem hi'] at hd
      rw [Option.some.inj hd]
    rw [hdr] at hf
    have st2 := st.step e2 s2
    unfold forL at hf
    cases hbp : bindPt p d v' with
    | none => simp only [forF, hbp] at hf; exact hf.elim
    | some w =>
      simp only [forF, hbp] at hf
      refine st2.bindP hg hbp rd fun σ2 st3 => ⟨_, w, S', F2, ρ', st3, ?_⟩
      exact hf.bodyB fun v S σ F ρ H st hk => ⟨v, S, F, ρ, st, hk⟩
  · rintro σ' H' ⟨v', S', F', ρ', st, hf⟩
    rw [List.drop_length] at hf
    exact hf σ' F' ρ' H' st.drop
end
end Mi

set_option Elab.async false
set_option linter.all false
set_option maxRecDepth 100000
set_option maxHeartbeats 4000000
/-! Mi, part 14: lists of one's own are written; pairs; fields of the object that __init__ fills. -/
namespace Mi
open PySem PySem.Spec PyProof.Rows L2
section
variable {Z : Ci} {W : WX} {G : Ga} {X : Cx} {B : List Bs} {v w : Env} {S S1 : Sto} {F F1 : Hp} {ρ ρ1 : List Addr} {σ : L2.St} {H H1 : Hp} {E : Ends} {α β : Type}
/-- x.append(e) -/
theorem ss_app {i : Nat} {e : Ex} {st : Stmt} {K : PySem.W.Frag} (h : PS X st (tDrop (tBM K "list" rAppend (tVar i) (fun σ H Q => tE Z W G e σ H fun x H1 => Q [x] H1)))) : PS X st (tS Z W (xs1 G (.app i e))) := h.imp fun E σ H ⟨B, v, S, F, ρ, s0, hp⟩ => by
  rw [xs1] at hp
  cases q : getN v i with
  | none => rw [q] at hp; exact hp.elim
  | some s =>
    rw [q] at hp
    cases s with
    | ol l =>
      obtain ⟨o, hs, a, vs, rfl, h1, h2, r⟩ := s0.env.get q
      refine ⟨.ref a, hs, .inl ⟨rfl, vs, .inl (.inl h1)⟩, F, ρ, v, S, s0.env, s0.sto, (PostS.bind (P := pV Z) hp s0).mono fun d x F1 ρ1 H1 e1 p k => ?_⟩
      obtain ⟨d, F2, ρ2, S2, e2, p2, s2, q2⟩ := k x p
      by_cases z : l.length < SZ
      · rw [if_pos z] at q2
        obtain ⟨o', hs', a', vs', eo, h1', h2', r'⟩ := s2.env.get q
        rw [hs] at hs'; cases hs'; cases eo
        rw [getN_eq] at q
        exact ⟨a, vs', x, rfl, rfl, h1', by rw [← r'.len, ← sz_line]; exact z, q2 σ F2 ρ2 _ (s2.mut q hs ⟨trivial, rfl⟩ h1' (fun _ z => by cases z) (fun b wb => by have := wb.2; cases this; rfl) (fun _ _ z => by cases z) ⟨a, _, rfl, upd_same, h2', r'.app (.one p2)⟩)⟩
      · rw [if_neg z] at q2; exact q2.elim
    | _ => exact hp.elim
/-- x.append(y.pop(e)) -/
theorem ss_appPop {i j : Nat} {e : Ex} {st : Stmt} {K K' : PySem.W.Frag} (h : PS X st (tDrop (tBM K "list" rAppend (tVar i) (fun σ H Q => tBM K' "list" rPopAt (tVar j) (fun σ H Q => tE Z W G e σ H fun x H1 => Q [x] H1) σ H fun x H1 => Q [x] H1)))) : PS X st (tS Z W (xs1 G (.appPop i j e))) := h.imp fun E σ H ⟨B, v, S, F, ρ, s0, hp⟩ => by
  rw [xs1] at hp
  cases q : getN v i with
  | none => rw [q] at hp; exact hp.elim
  | some s =>
    rw [q] at hp
    cases s with
    | ol l =>
      cases q' : getN v j with
      | none => rw [q'] at hp; exact hp.elim
      | some s' =>
        rw [q'] at hp
        cases s' with
        | ol m =>
          obtain ⟨o, hs, a, vs, rfl, h1, h2, r⟩ := s0.env.get q
          obtain ⟨o', hs', a', vs', rfl, h1', h2', r'⟩ := s0.env.get q'
          refine ⟨.ref a, hs, .inl ⟨rfl, vs, .inl (.inl h1)⟩, .ref a', hs', .inl ⟨rfl, vs', .inl (.inl h1')⟩, F, ρ, v, S, s0.env, s0.sto, (PostS.bind (P := pV Z) hp s0).mono fun d x F1 ρ1 H1 e1 p k => ?_⟩
          clear h1 h2 r h1' h2' r' vs vs'
          obtain ⟨d, F2, ρ2, S2, e2, p2, s2, q2⟩ := k x p
          obtain ⟨o, hs2, b, vs, eo, h1, h2, r⟩ := s2.env.get q
          rw [hs] at hs2; cases hs2; cases eo
          obtain ⟨o, hs2, b, vs', eo, h1', h2', r'⟩ := s2.env.get q'
          rw [hs'] at hs2; cases hs2; cases eo
          cases p2 with
          | @int k =>
            simp only at q2
            cases hn : ixN m.length k with
            | none => rw [hn] at q2; exact q2.elim
            | some n =>
              simp only [hn] at q2
              cases hg : getN m n with
              | none => rw [hg] at q2; exact q2.elim
              | some d =>
                simp only [hg] at q2
                split at q2
                · rename_i z
                  rw [getN_eq] at hg q q'
                  obtain ⟨y, hy, ry⟩ := r'.get hg
                  have hk : seqIndex? k vs'.length = some n := by
                    rw [← r'.len]
                    unfold ixN at hn
                    unfold seqIndex?
                    have hl := m.length
                    split at hn
                    · split at hn
                      · cases hn; simp [*] <;> omega
                      · cases hn
                    · split at hn
                      · cases hn; simp [*] <;> omega
                      · cases hn
                  have t1 := s2.mut q' hs' ⟨trivial, rfl⟩ h1' (fun _ z => by cases z) (fun b wb => by have := wb.2; cases this; rfl) (fun _ _ z => by cases z) (t := .ol (m.eraseIdx n)) (u' := .lst (vs'.eraseIdx n)) ⟨a', _, rfl, upd_same, h2', r'.eraseIdx n⟩
                  have qi : (setN v j (.ol (m.eraseIdx n)))[i]? = some (.ol l) := by rw [setN_eq, List.getElem?_set_ne (Ne.symm z.1)]; exact q
                  have ne : a ≠ a' := fun e => z.1 (s2.env.inj i j _ _ _ _ a q hs q' hs' ⟨trivial, rfl⟩ ⟨trivial, by rw [e]⟩)
                  have h3 : upd H1 a' (.lst (vs'.eraseIdx n)) a = some (.lst vs) := by rw [upd_ne ne]; exact h1
                  refine ⟨a', vs', k, n, y, rfl, rfl, h1', by omega, by omega, hk, hy, a, vs, y, rfl, rfl, h3, by rw [← r.len, ← sz_line]; exact z.2.1, ?_⟩
                  exact q2 σ F2 ρ2 _ (t1.mut qi hs ⟨trivial, rfl⟩ h3 (fun _ z => by cases z) (fun b wb => by have := wb.2; cases this; rfl) (fun _ _ z => by cases z) ⟨a, _, rfl, upd_same, h2, r.app (.one ry)⟩)
                · exact q2.elim
          | _ => exact q2.elim
        | _ => exact hp.elim
    | _ => exact hp.elim
/-- x[k] = e -/
theorem ss_setI {i : Nat} {k e : Ex} {st : Stmt} (h : PS X st (tAsg (tE Z W G e) (gSub (tVar i) (tE Z W G k) rSetL))) : PS X st (tS Z W (xs1 G (.setI i k e))) := h.imp fun E σ H ⟨B, v, S, F, ρ, s0, hp⟩ => by
  rw [xs1] at hp
  cases q : getN v i with
  | none => rw [q] at hp; exact hp.elim
  | some s =>
    rw [q] at hp
    cases s with
    | ol l =>
      obtain ⟨o, hs, a, vs, rfl, h1, h2, r⟩ := s0.env.get q
      refine ⟨F, ρ, v, S, s0.env, s0.sto, (PostS.bind (P := pV Z) hp s0).mono fun d x F1 ρ1 H1 e1 p kk => ?_⟩
      obtain ⟨d, F2, ρ2, S2, e2, p2, s2, q2⟩ := kk x p
      refine ⟨.ref a, hs, F2, ρ2, v, S2, s2.env, s2.sto, (PostS.bind (P := pV Z) q2 s2).mono fun dk y F3 ρ3 H3 e3 p3 k3 => ?_⟩
      obtain ⟨dk, F4, ρ4, S4, e4, p4, s4, q4⟩ := k3 y p3
      clear h1 h2 r vs
      obtain ⟨o, hs2, b, vs, eo, h1, h2, r⟩ := s4.env.get q
      rw [hs] at hs2; cases hs2; cases eo
      cases p4 with
      | @int j =>
        simp only at q4
        cases hn : ixN l.length j with
        | none => rw [hn] at q4; exact q4.elim
        | some n =>
          simp only [hn] at q4
          rw [getN_eq] at q
          refine ⟨a, vs, j, n, rfl, rfl, h1, by rw [← r.len]; exact hn, ?_⟩
          exact q4 σ F4 ρ4 _ (s4.mut q hs ⟨trivial, rfl⟩ h1 (fun _ z => by cases z) (fun b wb => by have := wb.2; cases this; rfl) (fun _ _ z => by cases z) ⟨a, _, rfl, upd_same, h2, by rw [setN_eq]; exact r.set n (e4.rep p2)⟩)
      | _ => exact q4.elim
    | _ => exact hp.elim
end
end Mi

set_option Elab.async false
set_option linter.all false
set_option maxRecDepth 100000
set_option maxHeartbeats 4000000
/-! Mi, part 15: fields of the object that __init__ fills; pairs; comprehensions that are stored. -/
namespace Mi
open PySem PySem.Spec PyProof.Rows L2
section
variable {Z : Ci} {W : WX} {G : Ga} {X : Cx} {B : List Bs} {v w : Env} {S S1 : Sto} {F F1 : Hp} {ρ ρ1 : List Addr} {σ : L2.St} {H H1 : Hp} {E : Ends} {α β : Type}
theorem putF_end {f : Str} {y : V} : ∀ {ns : List Str} {vs : List V}, ns.Nodup → ns[vs.length]? = some f → putF f y (ns.zip vs) = ns.zip (vs ++ [y])
  | [], vs, _, h => by simp at h
  | g :: ns, [], nd, h => by
    have h : g = f := by simpa using h
    subst h
    simp [putF]
  | g :: ns, x :: vs, nd, h => by
    have h : ns[vs.length]? = some f := by simpa using h
    have nd := List.nodup_cons.mp nd
    have ne : g ≠ f := fun e => by subst e; exact nd.1 (List.mem_of_getElem? h)
    show putF f y ((g, x) :: ns.zip vs) = (g, x) :: ns.zip (vs ++ [y])
    unfold putF
    rw [if_neg ne, putF_end nd.2 h]
theorem ClsF.names_nodup {nm : Nat → Str} {na c : Nat} {k : Cl} (h : ClsF X Z nm na c k) : (Z.cn c).Nodup := by
  rw [h.names]
  refine List.pairwise_map.mpr (List.Pairwise.imp_of_mem (fun {a b} ha hb ne e => ne ?_) h.nd)
  exact (h.inj b a (h.lt b hb) ha e)
/-- self.f = e -/
theorem ss_sfl {nm : Nat → Str} {na : Nat} {i f : Nat} {e : Ex} {st : Stmt} (hc : ∀ c k, G.cls c = some k → ClsF X Z nm na c k) (h : PS X st (sFld X.K (tVar i) (tE Z W G e) (nm f))) : PS X st (tS Z W (xs1 G (.sfl i f e))) := h.imp fun E σ H ⟨B, v, S, F, ρ, s0, hp⟩ => by
  rw [xs1] at hp
  cases q : getN v i with
  | none => rw [q] at hp; exact hp.elim
  | some s =>
    rw [q] at hp
    cases s with
    | sf c fs =>
      refine ⟨F, ρ, v, S, s0.env, s0.sto, (PostS.bind (P := pV Z) hp s0).mono fun d x F1 ρ1 H1 e1 p k => ?_⟩
      obtain ⟨d, F2, ρ2, S2, e2, p2, s2, q2⟩ := k x p
      obtain ⟨o, hs, a, dx, vs, rfl, h1, hl, h2, r⟩ := s2.env.get q
      refine ⟨.ref a, hs, a, Z.ca c, dx, _, rfl, h1, ?_⟩
      cases ec : G.cls c with
      | none => rw [ec] at q2; exact q2.elim
      | some kc =>
        have K := hc c kc ec
        simp only [ec, Option.bind_some] at q2
        cases eg : getN kc.at_ fs.length with
        | none => rw [eg] at q2; exact q2.elim
        | some g =>
          simp only [eg] at q2
          split at q2
          · rename_i z
            obtain ⟨rfl, z⟩ := z
            rw [getN_eq] at eg q
            have mg : g ∈ kc.at_ := List.mem_of_getElem? eg
            have hn : (Z.cn c)[vs.length]? = some (nm g) := by rw [K.names, List.getElem?_map, ← r.len, eg]; rfl
            have hlt : vs.length < (Z.cn c).length := (List.getElem?_eq_some_iff.mp hn).1
            refine ⟨K.cls, K.no g mg, ?_, ?_⟩
            · rw [List.length_zip, ← r.len]; omega
            · rw [putF_end K.names_nodup hn]
              exact q2 σ F2 ρ2 _ (s2.mut q hs ⟨trivial, rfl⟩ h1 (fun _ z => by cases z) (fun b wb => by have := wb.2; cases this; rfl) (fun _ _ z => ⟨_, _, rfl⟩) ⟨a, dx, _, rfl, upd_same, by rw [List.length_append]; exact hlt, h2, r.app (.one p2)⟩)
          · exact q2.elim
    | _ => exact hp.elim
/-- an operand of a pair: a value, a list that is new -/
def tO (Z : Ci) (W : WX) (G : Ga) (o : Bool) (e : Ex) : TE := match o with
  | false => tE Z W G e
  | true => tF Z W (ev G e)
theorem pF.ext {F0 H0 : Hp} {d : D} {x : V} (e : Ext nO F ρ H F1 ρ1 H1) (s : StoR Z F ρ S H) (p : pF Z H0 d x F ρ H) : pF Z H0 d x F1 ρ1 H1 := by
  obtain ⟨l, a, vs, rfl, rfl, h1, h2, h3, r⟩ := p
  refine ⟨l, a, vs, rfl, rfl, e.keep _ _ h1 (s.notin h1 fun _ z => by cases z) (fun q => q) (fun _ z => by cases z), ?_, h3, e.reps r⟩
  cases z : F1 a with
  | none => rfl
  | some u =>
    rcases e.new a u z with q | q | q
    · rw [h2] at q; cases q
    · rw [h1] at q; cases q
    · exact q.elim
def pO (Z : Ci) (o : Bool) (H0 : Hp) : D → V → Hp → List Addr → Hp → Prop := match o with
  | false => pV Z
  | true => pF Z H0
theorem pO.ext {o : Bool} {H0 : Hp} {d : D} {x : V} (e : Ext nO F ρ H F1 ρ1 H1) (s : StoR Z F ρ S H) (p : pO Z o H0 d x F ρ H) : pO Z o H0 d x F1 ρ1 H1 := by
  cases o with
  | false => exact e.rep p
  | true => exact pF.ext (F0 := F) e s p
theorem slN_of {o : Bool} {e : Ex} {d : D} {s : Sl} {x : V} {F0 H0 : Hp} {ρ0 : List Addr} {S0 : Sto} (st : St0 Z B v S0 F0 ρ0 σ H0) (ex : Ext nO F0 ρ0 H0 F ρ H) (hs : slotOf o e d = some s) (p : pO Z o H0 d x F ρ H) : SlN Z B F ρ v σ H s x := by
  cases o with
  | false => cases hs; exact p
  | true =>
    obtain ⟨l, a, vs, rfl, rfl, h1, h2, h3, r⟩ := p
    unfold slotOf at hs
    simp only at hs
    split at hs
    · cases hs
      exact st.fresh ex ⟨a, vs, rfl, h1, h2, h3, r⟩
    · cases hs
theorem tO_of {o : Bool} {e : Ex} {Q : VK} (st : St0 Z B v S F ρ σ H) (h : PostA Z W (ev G e v S) (pO Z o H) F ρ σ H Q) : tO Z W G o e σ H Q := by
  cases o with
  | false => exact ⟨F, ρ, v, S, st.env, st.sto, h⟩
  | true => exact ⟨F, ρ, v, S, st.env, st.sto, h⟩
theorem ss_par {i j : Nat} {oi oj : Bool} {a b : Ex} {st : Stmt} (hij : i ≠ j) (h : PS X st (tPar i j (fun σ H Q => tO Z W G oi a σ H fun x H1 => tO Z W G oj b σ H1 fun y H2 => Q [x, y] H2))) : PS X st (tS Z W (xs1 G (.par i oi a j oj b))) := h.imp fun E σ H ⟨B, v, S, F, ρ, s0, hp⟩ => by
  rw [xs1] at hp
  refine tO_of s0 ((PostS.bind (P := pO Z oi H) hp s0).mono fun d x F1 ρ1 H1 e1 p k => ?_)
  obtain ⟨d, F1, ρ1, S1, e1, p1, s1, q1⟩ := k x p
  refine tO_of s1 ((PostS.bind (P := pO Z oj H1) q1 s1).mono fun d2 y F2 ρ2 H2 e2 p2 k2 => ?_)
  obtain ⟨d2, F2, ρ2, S2, e2, p2, s2, q2⟩ := k2 y p2
  cases h1 : slotOf oi a d with
  | none => simp only [h1] at q2; exact q2.elim
  | some t1 =>
    cases h2 : slotOf oj b d2 with
    | none => simp only [h1, h2] at q2; exact q2.elim
    | some t2 =>
      simp only [h1, h2] at q2
      have n1 := slN_of s0 (e1.trans e2) h1 (pO.ext e2 s1.sto p1)
      have n2 := slN_of s1 e2 h2 p2
      have st1 := s2.put (i := i) n1
      refine ⟨x, y, rfl, q2 _ F2 ρ2 H2 (st1.put ?_)⟩
      -- the second is not the first's
      cases t2 with
      | va d => exact n2
      | un => exact n2.elim
      | sf c fs => exact n2.elim
      | ol l =>
        obtain ⟨a2, vs, rfl, g1, g2, g3, g4, g5⟩ := n2
        refine ⟨a2, vs, rfl, g1, g2, g3, g4, fun k t o h3 h4 w => ?_⟩
        rw [setN_eq] at h3
        rcases set_cases h3 with ⟨e3, rfl⟩ | ⟨e3, h3⟩ <;> rcases set_cases h4 with ⟨e4, rfl⟩ | ⟨e4, h4⟩
        · -- the first, made ahead: it was there when the second was made
          cases t with
          | ol l1 =>
            cases oi with
            | false => cases h1
            | true =>
              obtain ⟨l1', a1, vs1, rfl, rfl, f1, f2, f3, f4⟩ := p1
              have := w.2; cases this
              cases oj with
              | false => cases h2
              | true =>
                obtain ⟨l2', a2', vs2, _, ea, _, _, f5, _⟩ := p2
                cases ea
                rw [f1] at f5; cases f5
          | va d => exact w.1
          | un => exact w.1
          | sf c fs => exact n1.elim
        · exact e4 e3
        · exact e3 e4
        · exact g5 k t o h3 h4 w
/-- x = [..] on one line -/
theorem sa_comp {e : Ex} {own : List Nat} {p : Pt} {it : Wk} {c : Exo} {elt tg iter : Expr} {ifs : List Expr} {scope : Scope} {ow : List (Str × Nat)} {pos spos py : Pos} {g : TG} {i : Nat} {y : Str} (hc : X.calm = true) (hN : X.N.Nodup) (hy : X.N[i]? = some y) (hyl : X.env.scope.names.lookup y = some .local)
    (hsw : swapsWith (.ListComp elt [⟨tg, iter, ifs, 0⟩] scope pos) (some (.Name y py)) spos.line X.env = pure true) (hi : PI X tg iter (tI Z W G nO it)) (ok : BlkOk X.N X.env.scope scope ow)
    (ho : ow.map (·.2) = own) (hp : ∀ i ∈ slotsP p, i ∈ own)
    (hg : ∀ (s : Shared) (H : Hp) (C : Addr) (cl : List (Str × Addr)) (fp : List Addr), PG (X.blk s H scope (compEnvC scope cl C X.env) fp) tg g)
    (ht : ∀ (s : Shared) (H : Hp) (C : Addr) (cl : List (Str × Addr)) (fp : List Addr), OkC (X.blk s H scope (compEnvC scope cl C X.env) fp) Z W0 G c ifs)
    (he : ∀ (s : Shared) (H : Hp) (C : Addr) (cl : List (Str × Addr)) (fp : List Addr), PE (X.blk s H scope (compEnvC scope cl C X.env) fp) elt (tE Z W0 G e)) (hst : StP Z p g) (hs : ∀ x, foldedSetIterable iter X.env x = pure x) :
    PS X (.Assign [.Name y py] (.ListComp elt [⟨tg, iter, ifs, 0⟩] scope pos) spos) (tAsg (tF Z W (ev G (.comp e own p it c))) (gName i)) :=
  (ps_setLc hc hN hy hyl hsw hi ok hg (fun s H C cl fp => pts_of (ht s H C cl fp)) he hs).imp fun E σ H q => by
    subst ho
    exact tLc_of hp hst q
end
end Mi

set_option Elab.async false
set_option linter.all false
set_option maxRecDepth 100000
set_option maxHeartbeats 1000000
/-! Mi, part 41: a, b, c = x, y, z. -/
namespace Mi
open PySem PySem.Spec PyProof.Rows L2
section
variable {Z : Ci} {W : WX} {G : Ga} {X : Cx}
theorem ss_par3 {i j l : Nat} {a b c : Ex} {st : Stmt} (h : PS X st (tPar3 i j l (tCons (tE Z W G a) (tCons (tE Z W G b) (tCons (tE Z W G c) tNil))))) : PS X st (tS Z W (xs1 G (.par3 i a j b l c))) := h.imp fun E σ H ⟨B, v, S, F, ρ, s0, hp⟩ => by
  rw [xs1] at hp
  refine ⟨F, ρ, v, S, s0.env, s0.sto, (PostS.bind (P := pV Z) hp s0).mono fun d x F1 ρ1 H1 e1 p k => ?_⟩
  obtain ⟨d, F1, ρ1, S1, e1, p1, s1, q1⟩ := k x p
  refine ⟨F1, ρ1, v, S1, s1.env, s1.sto, (PostS.bind (P := pV Z) q1 s1).mono fun d2 y F2 ρ2 H2 e2 p2 k2 => ?_⟩
  obtain ⟨d2, F2, ρ2, S2, e2, p2, s2, q2⟩ := k2 y p2
  refine ⟨F2, ρ2, v, S2, s2.env, s2.sto, (PostS.bind (P := pV Z) q2 s2).mono fun d3 z F3 ρ3 H3 e3 p3 k3 => ?_⟩
  obtain ⟨d3, F3, ρ3, S3, e3, p3, s3, q3⟩ := k3 z p3
  have t1 := s3.put (i := i) (show SlN Z B F3 ρ3 v σ H3 (.va d) x from e3.rep (e2.rep p1))
  have t2 := t1.put (i := j) (show SlN Z B F3 ρ3 _ _ H3 (.va d2) y from e3.rep p2)
  have t3 := t2.put (i := l) (show SlN Z B F3 ρ3 _ _ H3 (.va d3) z from p3)
  exact ⟨x, y, z, rfl, q3 _ F3 ρ3 H3 t3⟩
/-- the stores of three are exchanged -/
def tripB (x y z : Str) (px py pz : Pos) (a b c : Expr) : Bool := decide (x ≠ y) && decide (x ≠ z) && decide (y ≠ z) && (py.line == px.line) && (pz.line == px.line) && (match a with | .Starred .. => false | _ => true) && (match b with | .Starred .. => false | _ => true) && (match c with | .Starred .. => false | _ => true) && !([a, b, c].all (foldedForSure 8)) && !([a, b, c].all (constantsAlone 8))
theorem trip_ok {x y z : Str} {px py pz pt : Pos} {kt k2 : Nat} {pt2 : Pos} {a b c : Expr} {env : PySem.Env} (hk : env.scope.kind = .function) (hx : env.scope.names.lookup x = some .local) (hy : env.scope.names.lookup y = some .local) (hz : env.scope.names.lookup z = some .local) (h : tripB x y z px py pz a b c = true) :
    swappedStores [.Tuple [.Name x px, .Name y py, .Name z pz] kt pt] (.Tuple [a, b, c] k2 pt2) env = pure (some [x, y, z]) := by
  simp only [tripB, Bool.and_eq_true, decide_eq_true_eq, Bool.not_eq_true', beq_iff_eq] at h
  obtain ⟨⟨⟨⟨⟨⟨⟨⟨⟨h1, h2⟩, h3⟩, h4⟩, h5⟩, sa⟩, sb⟩, sc⟩, h8⟩, h9⟩ := h
  have kx : env.kindOf x = some .local := hx
  have ky : env.kindOf y = some .local := hy
  have kz : env.kindOf z = some .local := hz
  have hb : env.blockKind = .function := by unfold Env.blockKind; rw [hk]; rfl
  have pp : (Expr.Name x px).pos = px := rfl
  unfold swappedStores
  simp only [hb, List.filterMap_cons, List.filterMap_nil, kx, ky, kz, List.head?_cons, Option.map_some, Option.getD_some, pp, h4, h5, h8, h9]
  rw [if_neg (by simp)]
  rw [if_neg (fun hh => by
    rw [List.any_cons, List.any_cons, List.any_cons, List.any_nil, Bool.or_false, Bool.or_eq_true, Bool.or_eq_true] at hh
    rcases hh with hh | hh | hh
    · cases a <;> first | (cases sa; done) | (cases hh; done)
    · cases b <;> first | (cases sb; done) | (cases hh; done)
    · cases c <;> first | (cases sc; done) | (cases hh; done))]
  have n1 : (x == y) = false := beq_eq_false_iff_ne.mpr h1
  have n2 : (x == z) = false := beq_eq_false_iff_ne.mpr h2
  have n3 : (y == z) = false := beq_eq_false_iff_ne.mpr h3
  have m1 : (y == x) = false := beq_eq_false_iff_ne.mpr (Ne.symm h1)
  have m2 : (z == x) = false := beq_eq_false_iff_ne.mpr (Ne.symm h2)
  have m3 : (z == y) = false := beq_eq_false_iff_ne.mpr (Ne.symm h3)
  simp only [beq_self_eq_true, Bool.and_self, if_true]
  rw [if_neg (by simp [List.eraseDups, List.eraseDupsBy, List.eraseDupsBy.loop, n1, n2, n3, m1, m2, m3])]
  simp
end
end Mi

set_option Elab.async false
set_option linter.all false
set_option maxRecDepth 100000
set_option maxHeartbeats 4000000
/-! Mi, part 16: operators of one's own classes. -/
namespace Mi
open PySem PySem.Spec PyProof.Rows L2 PySem.W
section
variable {prog : Program} {w : World} {A : Around} {E : Value → Shared → Prop} {s : Shared} {K : PySem.W.Frag} {x y C C' L f f' : Addr} {ox oy : Obj} {od od' : Option Obj}
/-- x op y, x and y of two classes of one's own, x's own def takes y -/
theorem bin_other {op : Operator} {rc rc' : Option Value} {Q : Value → Shared → Prop} (X : K.In s.heap) (I : InstAt s.heap x ox C od) (I' : InstAt s.heap y oy C' od') (hne : C ≠ C') (hc : selfFirst K C = true) (hc' : selfFirst K C' = true)
    (hs : findIn K (.ref C) (PySem.dunder op.info.2) = some (some (.ref f))) (hf : isFn K (.ref f) = true) (hr : findIn K (.ref C) (dunderR op.info.2) = some rc) (hp : rc = none ∨ ∃ g : Addr, rc = some (.ref g))
    (hs' : findIn K (.ref C') (PySem.dunder op.info.2) = some (some (.ref f'))) (hr' : findIn K (.ref C') (dunderR op.info.2) = some rc') (hp' : rc' = none ∨ ∃ g : Addr, rc' = some (.ref g)) (hsub : subIn K (.ref C') (.ref C) = some false)
    (h : wpAny (model prog w) A (call (.ref f) [.ref x, .ref y]) (PySem.W.CmpBack Q) E s) : wpAny (model prog w) A (binaryOp op (.ref x) (.ref y)) Q E s := by
  obtain ⟨cd, rest, hcd, hm⟩ := ksp_first hc
  obtain ⟨cd', rest', hcd', hm'⟩ := ksp_first hc'
  rcases hi : op.info with ⟨sym, nm'⟩
  rw [hi] at hs hr hs' hr'
  dsimp only at hs hr hs' hr'
  have one := ksp_try X I hs hf h
  obtain ⟨hh, g, d, tt, os⟩ := s
  have L1 : Looks (model prog w) hh (typeOf (.ref x)) (.ref C) := I.type
  have L2 : Looks (model prog w) hh (typeOf (.ref y)) (.ref C') := I'.type
  have L3 : Looks (model prog w) hh (fillsNumberSlot (.ref C) nm') true := fills_K X hcd hm hs
  have L4 : Looks (model prog w) hh (fillsNumberSlot (.ref C') nm') true := fills_K X hcd' hm' hs'
  have L5 : Looks (model prog w) hh (isSubtype (.ref C') (.ref C)) false := looks_subIn X hsub
  have L6 : Looks (model prog w) hh (numberSlotInPython (.ref C) nm') true := ksp_inPy X hs hr hp
  have L7 : Looks (model prog w) hh (numberSlotInPython (.ref C') nm') true := ksp_inPy X hs' hr' hp'
  have hne : (Value.ref C == Value.ref C') = false := Bool.eq_false_iff.mpr fun q => hne (by have := beq_iff_eq.mp q; cases this; rfl)
  simp only [binaryOp, hi]
  refine wpAny_holding (wpAny_bind ?_)
  unfold binaryOp1
  refine wpAny_bind (L1.at (wpAny_bind (L2.at (wpAny_bind (L3.at ?_)))))
  simp only [hne, Bool.false_eq_true, if_false]
  ksp_lk
  refine wpAny_mono one (fun r s' hr' => ?_) fun _ _ e => e
  obtain ⟨v, rfl, hq⟩ := hr'
  ksp_lk
  exact hq
theorem bin_int {op : Operator} {i : Int} {t : Tok} {id : String} {Q : Value → Shared → Prop} (X : K.In s.heap) (I' : InstAt s.heap y oy C' od') (hc' : selfFirst K C' = true)
    (hfi : fillsNumberSlot (.type "int") op.info.2 = pure true) (hl : Slot "int" (PySem.dunder op.info.2) id) (hd : ∀ {Q : Value → Shared → Prop}, Q .notImplemented s → wpAny (model prog w) A (call (.builtin id) [.int i t, .ref y]) Q E s)
    (hs' : findIn K (.ref C') (PySem.dunder op.info.2) = some (some (.ref f'))) (hr' : findIn K (.ref C') (dunderR op.info.2) = some (some (.ref f))) (hf : isFn K (.ref f) = true) (hsub : subIn K (.ref C') (.type "int") = some false)
    (h : wpAny (model prog w) A (call (.ref f) [.ref y, .int i t]) (PySem.W.CmpBack Q) E s) : wpAny (model prog w) A (binaryOp op (.int i t) (.ref y)) Q E s := by
  obtain ⟨cd', rest', hcd', hm'⟩ := ksp_first hc'
  rcases hi : op.info with ⟨sym, nm'⟩
  rw [hi] at hfi hl hs' hr'
  dsimp only at hfi hl hs' hr'
  have one := ksp_try X I' hr' hf h
  have L2 : Looks (model prog w) s.heap (typeOf (.ref y)) (.ref C') := I'.type
  have L4 : Looks (model prog w) s.heap (fillsNumberSlot (.ref C') nm') true := fills_K X hcd' hm' hs'
  have L5 : Looks (model prog w) s.heap (isSubtype (.ref C') (.type "int")) false := looks_subIn X hsub
  have hne : (Value.type "int" == Value.ref C') = false := Bool.eq_false_iff.mpr fun q => by cases beq_iff_eq.mp q
  have hpy : numberSlotInPython (.type "int") nm' = pure false := rfl
  simp only [binaryOp, hi]
  refine wpAny_holding (wpAny_bind ?_)
  unfold binaryOp1
  refine wpAny_bind (wpAny_typeOf (typeIs_int s i t) (wpAny_bind (L2.here (wpAny_bind (wpAny_of_eq hfi ?_)))))
  simp only [hne, Bool.false_eq_true, if_false]
  refine wpAny_bind (L4.here ?_)
  simp only [Bool.and_self, if_true]
  refine wpAny_bind (L5.here ?_)
  simp only [Bool.false_eq_true, if_false, pure_bind, Bool.not_false, Bool.and_self, if_true, hpy]
  refine wpAny_bind (wpAny_tryMethod_declines (typeIs_int s i t) hl (hd ⟨rfl, ?_⟩))
  refine wpAny_bind (wpAny_mono one (fun r s' hr' => ?_) fun _ _ e => e)
  obtain ⟨v, rfl, hq⟩ := hr'
  exact wpAny_bind (wpAny_rule (wpAny_pure (wpAny_pure hq)))
theorem int_no {nm : String} {g : Int → Int → Sem Fin} {i : Int} {t : Tok} {M : Model} {Q : Value → Shared → Prop} (hy : s.heap.get? y = some oy) (hd : oy.data = .plain) (h : Q .notImplemented s) :
    wpAny M A (Builtin.Int.intBinary nm g false ⟨[.int i t, .ref y], []⟩) (fun fin s' => ∃ v, fin = .done (.ret v) ∧ Q v s') E s := by
  unfold Builtin.Int.intBinary
  refine wpAny_bind (wpAny_of_eq (a := (Value.int i t, [Value.ref y])) rfl ?_)
  refine wpAny_bind (wpAny_of_eq (a := i) rfl ?_)
  refine wpAny_bind (m := asInt? (.ref y)) ?_
  unfold asInt?
  refine wpAny_bind (wpAny_load hy ?_)
  rw [hd]
  exact wpAny_pure (wpAny_bind (wpAny_rule (wpAny_pure ⟨_, rfl, h⟩)))
theorem int_no_add {i : Int} {t : Tok} {Q : Value → Shared → Prop} (hy : s.heap.get? y = some oy) (hd : oy.data = .plain) (h : Q .notImplemented s) : wpAny (model prog w) A (call (.builtin "int.__add__") [.int i t, .ref y]) Q E s :=
  wpAny_call_entry F.slot_int_add (typeIs_int s i t) F.entry_int_add (int_no hy hd h) (F.args_int_add_2 _ _)
theorem int_no_sub {i : Int} {t : Tok} {Q : Value → Shared → Prop} (hy : s.heap.get? y = some oy) (hd : oy.data = .plain) (h : Q .notImplemented s) : wpAny (model prog w) A (call (.builtin "int.__sub__") [.int i t, .ref y]) Q E s :=
  wpAny_call_entry F.slot_int_sub (typeIs_int s i t) F.entry_int_sub (int_no hy hd h) (F.args_int_sub_2 _ _)
theorem int_no_mul {i : Int} {t : Tok} {Q : Value → Shared → Prop} (hy : s.heap.get? y = some oy) (hd : oy.data = .plain) (h : Q .notImplemented s) : wpAny (model prog w) A (call (.builtin "int.__mul__") [.int i t, .ref y]) Q E s :=
  wpAny_call_entry F.slot_int_mul (typeIs_int s i t) F.entry_int_mul (int_no hy hd h) (F.args_int_mul_2 _ _)
end

section
variable {Z : Ci} {W : WX} {G : Ga} {X : Cx}
/-- the operator's name -/
def opN (o : Bi) : String := (opO o).info.2
/-- a class of one's own: what an operator asks -/
structure ClsO (K : PySem.W.Frag) (C : Addr) : Prop where
  first : selfFirst K C = true
  cls : Cls K C
/-- an operator's def -/
structure OpD (K : PySem.W.Frag) (C a : Addr) (nm : String) : Prop where
  fn : findIn K (.ref C) (PySem.dunder nm) = some (some (.ref a))
  is : isFn K (.ref a) = true
  rev : ∃ rc, findIn K (.ref C) (dunderR nm) = some rc ∧ (rc = none ∨ ∃ g : Addr, rc = some (.ref g))
/-- what is known of an operator over all classes -/
structure OpsF (X : Cx) (Z : Ci) (G : Ga) (o : Bi) : Prop where
  one : ∀ c k f, G.cls c = some k → k.op o = some f → selfFirst X.K (Z.ca c) = true ∧ (∃ a, OpD X.K (Z.ca c) a (opN o) ∧ CalF X Z (G.call f) a 2) ∧ subIn X.K (.type "int") (.ref (Z.ca c)) = some false
  two : ∀ c k f d k' f', G.cls c = some k → k.op o = some f → G.cls d = some k' → k'.op o = some f' → Z.ca c ≠ Z.ca d → subIn X.K (.ref (Z.ca d)) (.ref (Z.ca c)) = some false
  rev : ∀ c k f, G.cls c = some k → k.rop o = some f → selfFirst X.K (Z.ca c) = true ∧ (∃ a b, findIn X.K (.ref (Z.ca c)) (dunderR (opN o)) = some (some (.ref a)) ∧ isFn X.K (.ref a) = true ∧ findIn X.K (.ref (Z.ca c)) (PySem.dunder (opN o)) = some (some (.ref b)) ∧ CalF X Z (G.call f) a 2) ∧ subIn X.K (.ref (Z.ca c)) (.type "int") = some false
  int : ∃ fo ro, findIn X.K (.type "int") (PySem.dunder (opN o)) = some fo ∧ findIn X.K (.type "int") (dunderR (opN o)) = some ro
theorem back_of {pins : List (Addr × Obj)} {σ : L2.St} {Q : VK} {v : Value} {s' : Shared} (h : EP X pins σ Q v s') : PySem.W.CmpBack (EP X pins σ Q) v s' := by
  cases v <;> first | exact h | (obtain ⟨x, H', I, r, q⟩ := h; cases x <;> first | (cases r; done) | (obtain ⟨t, e⟩ := r; cases e))
theorem Takes.none {W : WX} (tk : L2.Takes X W) : L2.Takes X W0 := tk.imp fun _ _ _ _ h => h.elim
/-- a def of one's own, called by the interpreter's rule -/
theorem run_cal {call : List D → Sto → R D} {a : Addr} {n : Nat} {pins : List (Addr × Obj)} {σ : L2.St} {H : Hp} {s : Shared} {Q : VK} {us : List Value} {vs : List V} {F : Hp} {ρ : List Addr} {S : Sto} {ds : List D} (C : CalF X Z call a n) (tk : L2.Takes X W) (I : Inv X pins σ H s) (r : Vals vs us) (hl : ds.length = n)
    (hs : StoR Z F ρ S H) (rs : Reps Z F ρ ds vs) (q : PostA Z W (call ds S) (pV Z) F ρ σ H Q) : wpAny (model X.prog X.w) X.A (PySem.call (.ref a) us) (EP X pins σ Q) X.xe s := by
  obtain ⟨fd, ps, dvs, dd, ds', k, Fk, hr, hb, hd, hlen, hdd, hfill⟩ := C.ok
  have hv : vs.length = n := by rw [rs.lenV, hl]
  refine run_fnSD Fk hr hb hd (passAt tk σ) I r ⟨by rw [List.length_append, hv]; exact hlen, F, ρ, S, ds ++ _, hs, rs.app (hdd F ρ), ?_⟩
  rw [← hfill ds S hl]
  exact q.slots
theorem nox_ok {r : R D} {P : D → V → Hp → List Addr → Hp → Prop} {F H : Hp} {ρ : List Addr} {σ : L2.St} {Q : VK} (h : PostA Z W0 r.nox P F ρ σ H Q) : PostA Z W0 r P F ρ σ H Q := by
  cases r <;> first | exact h | exact h.elim
theorem PostA.un {r : R D} {P : D → V → Hp → List Addr → Hp → Prop} {F H : Hp} {ρ : List Addr} {σ σ' : L2.St} {Q : VK} (h : PostA Z W0 r P F ρ σ H Q) : PostA Z W0 r P F ρ σ' H Q := by
  cases r <;> exact h
theorem inst_at {pins : List (Addr × Obj)} {σ : L2.St} {H : Hp} {s : Shared} {a C dx : Addr} {fs : List (Str × V)} (I : Inv X pins σ H s) (e : H a = some (.ins C dx fs)) : ∃ od, PySem.W.InstAt s.heap a (PySem.W.instObj C dx) C (some od) := by
  obtain ⟨h1, h2, h3, h4, mA, h5, h6⟩ := I.hok a _ e
  obtain ⟨od, ho, _⟩ := lookIn_ns h5
  exact ⟨od, ⟨h4, rfl, rfl, ho⟩⟩
/-- int's own def does not take an instance -/
structure IntOp (o : Bi) : Prop where
  fills : fillsNumberSlot (.type "int") (opN o) = pure true
  no : ∃ id, Slot "int" (PySem.dunder (opN o)) id ∧ ∀ {prog : Program} {w : World} {A : Around} {E : Value → Shared → Prop} {s : Shared} {y : Addr} {oy : Obj} {i : Int} {t : Tok} {Q : Value → Shared → Prop}, s.heap.get? y = some oy → oy.data = .plain → Q .notImplemented s → wpAny (model prog w) A (PySem.call (.builtin id) [.int i t, .ref y]) Q E s
theorem intOp_add : IntOp .add := ⟨F.fills_int_add, _, F.slot_int_add, fun h d q => int_no_add h d q⟩
theorem intOp_sub : IntOp .sub := ⟨F.fills_int_sub, _, F.slot_int_sub, fun h d q => int_no_sub h d q⟩
theorem intOp_mul : IntOp .mul := ⟨F.fills_int_mul, _, F.slot_int_mul, fun h d q => int_no_mul h d q⟩
theorem opi_all {o : Bi} (tk : L2.Takes X W) (hO : OpsF X Z G o) (hi : (∃ c k f, G.cls c = some k ∧ k.rop o = some f) → IntOp o) : OpR X (binaryOp (opO o)) (rBi Z G o) := by
  intro pins s σ H x y v u Q I rx ry ⟨F, ρ, S, dx, dy, hi', hs, r1, r2, q⟩
  have tk0 := Takes.none tk
  have q := q.un (σ' := σ)
  cases r1 with
  | @ins a1 d1 c1 vs1 fs1 h1 l1 rs1 =>
    cases rx
    obtain ⟨od1, i1⟩ := inst_at I (hs.le _ _ h1)
    cases r2 with
    | @ins a2 d2 c2 vs2 fs2 h2 l2 rs2 =>
      cases ry
      obtain ⟨od2, i2⟩ := inst_at I (hs.le _ _ h2)
      unfold binop opc at q
      simp only at q
      cases e3 : G.cls c2 with
      | none => rw [e3] at q; exact q.elim
      | some k' =>
       simp only [e3, Option.bind_some] at q
       cases e4 : k'.op o with
       | none => rw [e4] at q; exact q.elim
       | some f' =>
        simp only [e4, Option.bind_some] at q
        cases e1 : G.cls c1 with
        | none => rw [e1] at q; exact q.elim
        | some k =>
         simp only [e1, Option.bind_some] at q
         cases e2 : k.op o with
         | none => rw [e2] at q; exact q.elim
         | some f =>
          simp only [e2] at q
          obtain ⟨f1, ⟨a, D1, C1⟩, _⟩ := hO.one c1 k f e1 e2
          have call : wpAny (model X.prog X.w) X.A (PySem.call (.ref a) [.ref a1, .ref a2]) (PySem.W.CmpBack (EP X pins σ Q)) X.xe s :=
            wpAny_mono (run_cal C1 tk0 I (.cons (show RelV (V.ref a1) (Value.ref a1) from rfl) (.cons (show RelV (V.ref a2) (Value.ref a2) from rfl) .nil)) rfl hs (.cons (.ins h1 l1 rs1) (.cons (.ins h2 l2 rs2) .nil)) (nox_ok q)) (fun _ _ z => back_of z) fun _ _ z => z
          by_cases hc : Z.ca c1 = Z.ca c2
          · have fr : ∃ m, Fr X.base X.env.locals s.heap m := I.fr
            obtain ⟨m, fr⟩ := fr
            exact binop_K fr I.mod.kin i1 (by rw [hc]; exact i2.type) f1 D1.fn D1.is call
          ·   skip
              obtain ⟨g1, ⟨a', D2, _⟩, _⟩ := hO.one c2 k' f' e3 e4
              obtain ⟨rc, r1, r2⟩ := D1.rev
              obtain ⟨rc', r3, r4⟩ := D2.rev
              exact bin_other I.kIn i1 i2 hc f1 g1 D1.fn D1.is r1 r2 D2.fn r3 r4 (hO.two c1 k f c2 k' f' e1 e2 e3 e4 hc) call
    | @int j =>
      obtain ⟨t, rfl⟩ := ry
      unfold binop opc at q
      simp only at q
      cases e1 : G.cls c1 with
      | none => rw [e1] at q; exact q.elim
      | some k =>
        simp only [e1, Option.bind_some] at q
        cases e2 : k.op o with
        | none => rw [e2] at q; exact q.elim
        | some f =>
          simp only [e2] at q
          obtain ⟨f1, ⟨a, D1, C1⟩, sub⟩ := hO.one c1 k f e1 e2
          have call : wpAny (model X.prog X.w) X.A (PySem.call (.ref a) [.ref a1, .int j t]) (PySem.W.CmpBack (EP X pins σ Q)) X.xe s :=
            wpAny_mono (run_cal C1 tk0 I (.cons (show RelV (V.ref a1) (Value.ref a1) from rfl) (.cons (show RelV (V.int j) (Value.int j t) from ⟨t, rfl⟩) .nil)) rfl hs (.cons (.ins h1 l1 rs1) (.cons .int .nil)) (nox_ok q)) (fun _ _ z => back_of z) fun _ _ z => z
          obtain ⟨m, fr⟩ := I.fr
          obtain ⟨rc, g1, g2⟩ := D1.rev
          obtain ⟨fo, ro, g3, g4⟩ := hO.int
          exact ksp_binT fr I.mod.kin i1 rfl f1 D1.fn D1.is g1 g2 g3 g4 sub call
    | _ => cases o <;> exact (show False from q).elim
  | @int i =>
    obtain ⟨t, rfl⟩ := rx
    cases r2 with
    | @ins a2 d2 c2 vs2 fs2 h2 l2 rs2 =>
      cases ry
      obtain ⟨od2, i2⟩ := inst_at I (hs.le _ _ h2)
      unfold binop opc at q
      simp only at q
      cases e1 : G.cls c2 with
      | none => rw [e1] at q; exact q.elim
      | some k =>
        simp only [e1, Option.bind_some] at q
        cases e2 : k.rop o with
        | none => rw [e2] at q; exact q.elim
        | some f =>
          simp only [e2] at q
          obtain ⟨f1, ⟨a, b, g1, g2, g3, C1⟩, sub⟩ := hO.rev c2 k f e1 e2
          have call : wpAny (model X.prog X.w) X.A (PySem.call (.ref a) [.ref a2, .int i t]) (PySem.W.CmpBack (EP X pins σ Q)) X.xe s :=
            wpAny_mono (run_cal C1 tk0 I (.cons (show RelV (V.ref a2) (Value.ref a2) from rfl) (.cons (show RelV (V.int i) (Value.int i t) from ⟨t, rfl⟩) .nil)) rfl hs (.cons (.ins h2 l2 rs2) (.cons .int .nil)) (nox_ok q)) (fun _ _ z => back_of z) fun _ _ z => z
          have io := hi ⟨c2, k, f, e1, e2⟩
          obtain ⟨id, sl, no⟩ := io.no
          exact bin_int I.kIn i2 f1 io.fills sl (fun h => no i2.at_ rfl h) g3 g1 g2 sub call
    | _ => cases hi' <;> rename_i z <;> cases z
  | _ =>
    cases r2 with
    | ins => cases o <;> exact (show False from q).elim
    | _ => cases hi' <;> rename_i z <;> cases z
end
end Mi

set_option Elab.async false
set_option linter.all false
set_option maxRecDepth 100000
set_option maxHeartbeats 4000000
/-! Mi, part 17: isinstance, minus, instances made, methods. -/
namespace Mi
open PySem PySem.Spec PyProof.Rows L2
section
variable {Z : Ci} {W : WX} {G : Ga} {X : Cx}
/-! ### isinstance -/
def tyVal (Z : Ci) : D → Value
  | .non => .type "NoneType"
  | .bl _ => .type "bool"
  | .int _ => .type "int"
  | .str _ => .type "str"
  | .lst _ => .type "list"
  | .tup _ => .type "tuple"
  | .dr _ => .type "dict"
  | .fn _ => .type "function"
  | .ins c _ => .ref (Z.ca c)
def tyTgt (Z : Ci) : Ty → Value
  | .int => .type "int"
  | .bool => .type "bool"
  | .str => .type "str"
  | .list => .type "list"
  | .tuple => .type "tuple"
  | .dict => .type "dict"
  | .cls c => .ref (Z.ca c)
def tyV (Z : Ci) : Ty → V
  | .int => .ty "int"
  | .bool => .ty "bool"
  | .str => .ty "str"
  | .list => .ty "list"
  | .tuple => .ty "tuple"
  | .dict => .ty "dict"
  | .cls c => .ref (Z.ca c)
theorem clsV_ty : ∀ t, ClsV (tyV Z t) (tyTgt Z t) := fun t => by cases t <;> constructor
/-- what isinstance asks of the classes -/
structure IsF (X : Cx) (Z : Ci) (G : Ga) : Prop where
  kit : ∀ d t, knD G d = true → knT G t = true → PySem.W.kitOne X.K (tyVal Z d) (tyTgt Z t) = some (tyIs t d)
  cls : ∀ c, (G.cls c).isSome = true → Cls X.K (Z.ca c) ∧ PySem.W.findIn X.K (.ref (Z.ca c)) "__class__" = some (some (.builtin "object.__class__")) ∧ PySem.W.mroIn X.K (Z.ca c) (.type "object") = some true
  get : PySem.W.specialIn X.K (.builtin "object.__class__") "__get__" = some (some (.builtin "getset_descriptor.__get__")) ∧ PySem.W.takesIn X.K (.builtin "object.__class__") = some true
theorem tyX_of (hI : IsF X Z G) (hK : X.K = Z.K) {F H : Hp} {ρ : List Addr} {S : Sto} {d : D} {x : V} (s : StoR Z F ρ S H) (hk : knD G d = true) (r : Rep Z F ρ d x) : TyX X.K H x (tyVal Z d) := by
  cases r with
  | non => exact .base .non
  | bl => exact .base (.bl _)
  | int => exact .base (.int _)
  | str => exact .base (.str _)
  | lst h r =>
    rcases rdM s.le h with h | ⟨o, h⟩
    · exact .base (.lst h)
    · exact .base (.frz h)
  | tup h r =>
    rcases seqT s.le h with (h | ⟨o, h⟩) | ⟨o, its, n, h1, h2, h3, h4, h5⟩
    · exact .base (.tup h)
    · exact .fTuple h
    · exact .kTuple (by rw [hK]; exact h1) h2
  | @ins a dx c vs fs h hl r =>
    obtain ⟨c1, c2, c3⟩ := hI.cls c hk
    exact .base (.ins (s.le _ _ h) c1 c2 hI.get.1 hI.get.2 c3)
  | @dr a n h =>
    have h' : ρ[n]? = some a := by rw [← getN_eq]; exact h
    have hl : n < S.length := by rw [← s.len]; exact (List.getElem?_eq_some_iff.mp h').1
    obtain ⟨_, vs, q, _⟩ := s.at_ n S[n] a (by simp [hl]) h'
    exact .base (.dK q)
  | fn _ _ _ => cases hk
/-- an expression that names a type -/
def OkTy (X : Cx) (Z : Ci) (t : Ty) (e : Expr) : Prop := PE X e (tC (tyV Z t))
theorem isI_sem {a : Ex} {ts : List Ty} {b : Bool} {σ : L2.St} {H : Hp} {Q : VK} (h : tE Z W G (.isI a ts b) σ H Q) :
    tE Z W G a σ H fun x H1 => ∃ d F1 ρ1 S1, StoR Z F1 ρ1 S1 H1 ∧ Rep Z F1 ρ1 d x ∧ knD G d = true ∧ (∀ t ∈ ts, knT G t = true) ∧ ∀ H2, Ext nO F1 ρ1 H1 F1 ρ1 H2 → StoR Z F1 ρ1 S1 H2 → Q (.bl (ts.any fun t => tyIs t d)) H2 := by
  refine (tG.bind (P := pV Z) (f := ev G a) (k := fun x _ S => if (knD G x && ts.all (knT G)) = true then R.ok (D.bl (ts.any fun t => tyIs t x)) S else .bad) (h.eq fun v S => by rw [ev])).wk fun x H1 ⟨d, F1, ρ1, v1, S1, he, hs, p, q⟩ => ?_
  split at q
  · rename_i z
    simp only [Bool.and_eq_true, List.all_eq_true] at z
    exact ⟨d, F1, ρ1, S1, hs, p, z.1, z.2, fun H2 e s2 => q _ _ _ _ e s2 .bl⟩
  · exact q.elim
theorem se_isI {a : Ex} {t : Ty} {x c : Expr} {p pos} (hI : IsF X Z G) (hK : X.K = Z.K) (hg : Gl X "isinstance") (hm : X.mg "isinstance" = none) (ha : PE X x (tE Z W G a)) (hc : OkTy X Z t c) (h2 : starEach [x, c] X.env = (false, eval x X.env) :: starEach [c] X.env) (h1 : starEach [c] X.env = [(false, eval c X.env)]) :
    PE X (.Call (.Name "isinstance" p) [x, c] [] pos) (tE Z W G (.isI a [t] false)) := by
  refine (pe_callB call_isi hg hm (by decide +kernel) (pa_two ha hc h2 h1) (by decide) (by decide) (by rw [h2]) (by rw [h1]; rfl)).imp fun σ H Q h => ?_
  refine (isI_sem h).wk fun y H1 ⟨d, F1, ρ1, S1, hs, r, k1, k2, q⟩ => ?_
  refine ⟨y, tyV Z t, tyVal Z d, tyTgt Z t, _, rfl, clsV_ty t, tyX_of hI hK hs k1 r, hI.kit d t k1 (k2 t (by simp)), ?_⟩
  simpa using q H1 .refl hs
/-- the names of types, in a tuple -/
def OkTys (X : Cx) (Z : Ci) : List Ty → List Expr → Prop
  | [], [] => True
  | t :: ts, e :: es => OkTy X Z t e ∧ starEach (e :: es) X.env = (false, eval e X.env) :: starEach es X.env ∧ OkTys X Z ts es
  | _, _ => False
theorem pa_tys : ∀ {ts : List Ty} {es : List Expr}, OkTys X Z ts es → PA X es (fun _ H Q => Q (ts.map (tyV Z)) H)
  | [], [], _ => pa_nil.imp fun _ _ _ q => q
  | t :: ts, e :: es, h => (pa_cons h.1 (pa_tys h.2.2) h.2.1).imp fun _ _ _ q => q
  | [], _ :: _, h => h.elim
  | _ :: _, [], h => h.elim
theorem paired_tys : ∀ ts : List Ty, Paired ClsV (ts.map (tyV Z)) (ts.map (tyTgt Z))
  | [] => .nil
  | t :: ts => .cons (clsV_ty t) (paired_tys ts)
theorem kitAny_of {K : PySem.W.Frag} {t : Value} {d : D} : ∀ {ts : List Ty}, (∀ u ∈ ts, PySem.W.kitOne K t (tyTgt Z u) = some (tyIs u d)) → PySem.W.kitAny K t (ts.map (tyTgt Z)) = some (ts.any fun u => tyIs u d)
  | [], _ => rfl
  | u :: ts, h => by
    show (match PySem.W.kitOne K t (tyTgt Z u) with | some true => some true | some false => PySem.W.kitAny K t (ts.map (tyTgt Z)) | none => none) = _
    rw [h u (by simp)]
    cases hb : tyIs u d with
    | true => simp [hb]
    | false => simp only [List.any_cons, hb, Bool.false_or]; exact kitAny_of fun w hw => h w (by simp [hw])
theorem se_isIT {a : Ex} {ts : List Ty} {x : Expr} {es : List Expr} {kk : Nat} {p pos pt} (hI : IsF X Z G) (hK : X.K = Z.K) (hg : Gl X "isinstance") (hm : X.mg "isinstance" = none) (ha : PE X x (tE Z W G a)) (hc : OkTys X Z ts es) (hl : ts.length ≤ 100)
    (h2 : starEach [x, .Tuple es kk pt] X.env = (false, eval x X.env) :: starEach [.Tuple es kk pt] X.env) (h1 : starEach [.Tuple es kk pt] X.env = [(false, eval (.Tuple es kk pt) X.env)]) :
    PE X (.Call (.Name "isinstance" p) [x, .Tuple es kk pt] [] pos) (tE Z W G (.isI a ts true)) := by
  refine (pe_callB call_isiT hg hm (by decide +kernel) (pa_two ha (pe_tup (x1 := kk) (pa_tys hc)) h2 h1) (by decide) (by decide) (by rw [h2]) (by rw [h1]; rfl)).imp fun σ H Q h => ?_
  refine (isI_sem h).wk fun y H1 ⟨d, F1, ρ1, S1, hs, r, k1, k2, q⟩ => ⟨by rw [List.length_map, ← sz_line]; exact Nat.le_trans hl (by decide), fun tp htp => ?_⟩
  have s2 : StoR Z F1 ρ1 S1 (upd H1 tp (.tup (ts.map (tyV Z)))) := hs.made htp
  exact ⟨y, tp, ts.map (tyV Z), tyVal Z d, ts.map (tyTgt Z), _, rfl, upd_same, paired_tys ts, tyX_of hI hK s2 k1 r, kitAny_of fun u hu => hI.kit d u k1 (k2 u hu), q _ (Ext.made htp) s2⟩

/-! ### minus -/
structure NegF (X : Cx) (Z : Ci) (G : Ga) : Prop where
  one : ∀ c k f, G.cls c = some k → k.neg = some f → ∃ a, PySem.W.findIn X.K (.ref (Z.ca c)) "__neg__" = some (some (.ref a)) ∧ PySem.W.isFn X.K (.ref a) = true ∧ CalF X Z (G.call f) a 1
def rN (Z : Ci) (G : Ga) : V → Hp → VK → Prop := fun x H Q => ∃ F ρ S d, StoR Z F ρ S H ∧ Rep Z F ρ d x ∧ PostA Z W0 (negD G d S) (pV Z) F ρ [] H Q
theorem un_negD (tk : L2.Takes X W) (hN : NegF X Z G) : UnR X (unaryOp .USub) (rN Z G) := by
  intro pins s σ H x v Q I rx ⟨F, ρ, S, d, hs, r, q⟩
  cases r with
  | @int i => exact un_neg pins s σ H _ v Q I rx ⟨i, rfl, PostA.done q hs .int⟩
  | @ins a dx c vs fs h hl rs =>
    cases rx
    obtain ⟨od, i1⟩ := inst_at I (hs.le _ _ h)
    have q := q.un (σ' := σ)
    unfold negD opc at q
    simp only at q
    cases e1 : G.cls c with
    | none => rw [e1] at q; exact q.elim
    | some k =>
      simp only [e1, Option.bind_some] at q
      cases e2 : k.neg with
      | none => rw [e2] at q; exact q.elim
      | some f =>
        simp only [e2] at q
        obtain ⟨b, g1, g2, C1⟩ := hN.one c k f e1 e2
        obtain ⟨m, fr⟩ := I.fr
        exact PySem.W.ksp_neg fr I.mod.kin i1 g1 g2 (run_cal C1 (Takes.none tk) I (.cons (show RelV (V.ref a) (Value.ref a) from rfl) .nil) rfl hs (.cons (.ins h hl rs) .nil) (nox_ok q))
  | _ => exact q.elim
theorem negD_nox {x : D} {S S' : Sto} {c : Nat} {fs : List D} (e : negD G x S = .ex c fs S') : False := by
  unfold negD at e
  split at e
  · cases e
  · exact opc_nox e
  · cases e
theorem se_neg {a : Ex} {x : Expr} {pos} (tk : L2.Takes X W) (hN : NegF X Z G) (ha : PE X x (tE Z W G a)) : PE X (.UnaryOp .USub x pos) (tE Z W G (.neg a)) := by
  refine (pe_un (un_negD tk hN) ha).imp fun σ H Q h => ?_
  refine (tG.bind (P := pV Z) (f := ev G a) (k := fun x _ S => negD G x S) (h.eq fun v S => by rw [ev])).wk fun y H1 ⟨d, F1, ρ1, v1, S1, he, hs, p, q⟩ => ⟨F1, ρ1, S1, d, hs, p, ?_⟩
  cases e : negD G d S1 with
  | ok r S' => rw [e] at q; exact q
  | bad => rw [e] at q; exact q
  | ex c fs S' => exact (negD_nox e).elim
end
end Mi

set_option Elab.async false
set_option linter.all false
set_option maxRecDepth 100000
set_option maxHeartbeats 4000000
/-! Mi, part 18: instances made, methods called. -/
namespace Mi
open PySem PySem.Spec PyProof.Rows L2
section
variable {Z : Ci} {W : WX} {G : Ga} {X : Cx}
/-- what __init__ leaves -/
def PostI (Z : Ci) (r : R D) (c : Nat) (a : Addr) (F : Hp) (ρ : List Addr) (H : Hp) (Q : Hp → Prop) (E : XK) : Prop := match r with
  | .ok (.ins c' fs) S => c' = c ∧ ∀ vs dx F' ρ' H', Ext (fun b => b = a) F ρ H F' ρ' H' → StoR Z F' ρ' S H' → H' a = some (.ins (Z.ca c) dx ((Z.cn c).zip vs)) → vs.length = (Z.cn c).length → F' a = none → Reps Z F' ρ' fs vs → Q H'
  | .ok _ _ => False
  | .ex k fs S => ∀ cls d F' ρ' H', Ext (fun b => b = a) F ρ H F' ρ' H' → StoR Z F' ρ' S H' → XRep Z k fs cls d F' ρ' H' → E cls d H'
  | .bad => False
/-- an __init__'s promise -/
def spI (Z : Ci) (call : List D → Sto → R D) (c np : Nat) : Sp := fun vs H Q E => vs.length = np ∧ ∃ a dx us F ρ S ds, vs = V.ref a :: us ∧ H a = some (.ins (Z.ca c) dx []) ∧ F a = none ∧ StoR Z F ρ S H ∧ Reps Z F ρ ds us ∧ PostI Z (call ds S) c a F ρ H (fun H' => Q .non H') E
/-- a class that can be called with k arguments -/
structure CalI (X : Cx) (Z : Ci) (call : List D → Sto → R D) (c k : Nat) : Prop where
  ok : ∃ (a : Addr) (fd : FuncData) (ps : List Str) (dvs : List V) (ds : List Value) (dd : List D) (n : Nat), Mk X.K (Z.ca c) a ∧ FnOk X.prog X.w X.K X.mg X.base (L2.CX X.prog X.w) n a fd ps (spI Z call c ps.length) ∧ Room (n + 1) X.A ∧ Binds X.K fd ps ds ∧ Vals dvs ds ∧ k + 1 + dvs.length = ps.length ∧
    (∀ F ρ, Reps Z F ρ dd dvs) ∧ ∀ l S, l.length = k → call l S = call (l ++ dd) S
theorem Ext.newI {F F' H H' : Hp} {ρ ρ' : List Addr} {x dx : Addr} {o u w : HO} (hx : H x = none) (hd : H dx = none) (e : Ext (fun b => b = x) F ρ (upd (upd H dx o) x u) F' ρ' H') (fx : F' x = none) : Ext nO F ρ H (upd F' x w) ρ' H' := by
  have up : ∀ {b : Addr} {z : HO}, H b = some z → upd (upd H dx o) x u b = some z := fun {b z} q => by rw [upd_ne (ne_of_none q hx), upd_ne (ne_of_none q hd)]; exact q
  have dn : ∀ {b : Addr}, upd (upd H dx o) x u b = none → H b = none := fun {b} q => by
    cases z : H b with
    | none => rfl
    | some y => rw [up z] at q; cases q
  refine ⟨e.le.trans fun b z q => ?_, fun b z q h1 h2 ht => e.keep b z (up q) h1 (fun y => ?_) ht, fun b q => dn (e.dom b q), fun b z q => ?_, ?_⟩
  · rw [upd_ne (ne_of_none q fx)]; exact q
  · subst y; rw [hx] at q; cases q
  · by_cases y : b = x
    · subst y; exact .inr (.inl hx)
    · rw [upd_ne y] at q
      rcases e.new b z q with q | q | q
      · exact .inl q
      · exact .inr (.inl (dn q))
      · exact (y q).elim
  · obtain ⟨m, h1, h2⟩ := e.pre
    exact ⟨m, h1, fun b hb => dn (h2 b hb)⟩
/-- behind a raise in __init__: nothing is still but what was -/
theorem Ext.newX {F F' H H' : Hp} {ρ ρ' : List Addr} {x dx : Addr} {o u : HO} (hx : H x = none) (hd : H dx = none) (e : Ext (fun b => b = x) F ρ (upd (upd H dx o) x u) F' ρ' H') : Ext nO F ρ H F' ρ' H' := by
  have up : ∀ {b : Addr} {z : HO}, H b = some z → upd (upd H dx o) x u b = some z := fun {b z} q => by rw [upd_ne (ne_of_none q hx), upd_ne (ne_of_none q hd)]; exact q
  have dn : ∀ {b : Addr}, upd (upd H dx o) x u b = none → H b = none := fun {b} q => by
    cases z : H b with
    | none => rfl
    | some y => rw [up z] at q; cases q
  refine ⟨e.le, fun b z q h1 h2 ht => e.keep b z (up q) h1 (fun y => ?_) ht, fun b q => dn (e.dom b q), fun b z q => ?_, ?_⟩
  · subst y; rw [hx] at q; cases q
  · rcases e.new b z q with q | q | q
    · exact .inl q
    · exact .inr (.inl (dn q))
    · subst q; exact .inr (.inl hx)
  · obtain ⟨m, h1, h2⟩ := e.pre
    exact ⟨m, h1, fun b hb => dn (h2 b hb)⟩
theorem new_fin {call : List D → Sto → R D} {c : Nat} {l dd : List D} {vs dvs : List V} {F H : Hp} {ρ : List Addr} {S : Sto} {σ : L2.St} {Q : VK} {np : Nat} (hs : StoR Z F ρ S H) (r : Reps Z F ρ (l ++ dd) (vs ++ dvs)) (hl : (vs ++ dvs).length + 1 = np)
    (q : PostA Z W ((call (l ++ dd) S).bind fun d S => match d with | .ins c' fs => if c' = c then R.ok (D.ins c' fs) S else .bad | _ => .bad) (pV Z) F ρ σ H Q) (x dx : Addr) (hx : H x = none) (hd : H dx = none) (hne : dx ≠ x) :
    spI Z call c np (.ref x :: (vs ++ dvs)) (upd (upd H dx (.own x)) x (.ins (Z.ca c) dx [])) (fun v H2 => v = .non ∧ Q (.ref x) H2) (WE W σ) := by
  have fx : F x = none := by
    cases z : F x with
    | none => rfl
    | some u => rw [hs.le x u z] at hx; cases hx
  refine ⟨by simpa using hl, x, dx, vs ++ dvs, F, ρ, S, l ++ dd, rfl, upd_same, fx, (hs.made hd).made (by rw [upd_ne (Ne.symm hne)]; exact hx), r, ?_⟩
  cases e : call (l ++ dd) S with
  | bad => rw [e] at q; exact q.elim
  | ex k fs S' =>
    rw [e] at q
    exact fun cls d F' ρ' H' ex s xr => q cls d F' ρ' H' (Ext.newX hx hd ex) s xr
  | ok d S' =>
    rw [e] at q
    cases d with
    | ins c' fs =>
      simp only [R.bind] at q
      split at q
      · rename_i hc
        subst hc
        refine ⟨rfl, fun vs dx F' ρ' H' ex s ho hl f0 rr => ⟨rfl, ?_⟩⟩
        have le : Same F' (upd F' x (.ins (Z.ca c') dx ((Z.cn c').zip vs))) := fun b z q => by rw [upd_ne (ne_of_none q f0)]; exact q
        have mo : ∀ {l : List D} {ws : List V}, Reps Z F' ρ' l ws → Reps Z (upd F' x (.ins (Z.ca c') dx ((Z.cn c').zip vs))) ρ' l ws := fun r => by
          have := Reps.mono (m := []) le r
          rwa [List.append_nil] at this
        refine q _ _ _ _ (Ext.newI hx hd ex f0) ⟨fun b z q => ?_, s.len, s.nd, fun n kv b h1 h2 => ?_, tabs_up s.tab le (fun _ _ q => q), ftb_new s.ftb fun _ z => by cases z⟩ (.ins upd_same hl (mo rr))
        · by_cases y : b = x
          · subst y; rw [upd_same] at q; cases q; exact ho
          · rw [upd_ne y] at q; exact s.le b z q
        · obtain ⟨g1, ws, g2, g3⟩ := s.at_ n kv b h1 h2
          exact ⟨by rw [upd_ne (fun z => by subst z; rw [ho] at g2; cases g2)]; exact g1, ws, g2, mo g3⟩
      · exact q.elim
    | _ => exact q.elim
theorem se_new {c : Nat} {k : Cl} {es : Exs} {x : Str} {as : List Expr} {p pos} (hk : G.cls c = some k) (C : CalI X Z (G.call k.init) c (exN es)) (tk : L2.Takes X W) (hg : Gl X x) (hm : X.mg x = some (.ref (Z.ca c))) (hdb : (x == ("__debug__" : Str)) = false)
    (ha : PA X as (tEs Z W G es)) (he : ∀ b bs, as = b :: bs → starEach as X.env = (false, eval b X.env) :: starEach bs X.env ∧ (backTo pos (starEach bs X.env)).any (·.1) = false) (hn : as = [] → es = .nil) : PE X (.Call (.Name x p) as [] pos) (tE Z W G (.new c es)) := by
  obtain ⟨a, fd, ps, dvs, ds, dd, n, M, F, hr, hb, hd, hlen, hdd, hfill⟩ := C.ok
  cases as with
  | nil =>
    obtain rfl := hn rfl
    refine (mkS0 M F hr hg hm hb hd (fun σ => passAt tk σ) hdb).imp fun σ H Q h => ?_
    obtain ⟨F1, ρ1, v, S, he1, hs, hp⟩ := h
    rw [ev, evs] at hp
    simp only [R.bind, hk] at hp
    have hl0 : ([] : List D).length = exN .nil := rfl
    exact fun x dx hx hdx hne => new_fin (l := []) (vs := []) hs (hdd F1 ρ1) (by simp [exN] at hlen; simp; omega) (by rw [← hfill [] S hl0]; exact hp) x dx hx hdx hne
  | cons b bs =>
    obtain ⟨h1, h2⟩ := he b bs rfl
    refine (mkS M F hr hg hm hb hd (fun σ => passAt tk σ) (tEs_len ha) hdb h1 h2).imp fun σ H Q h => ?_
    refine (tG.args (k := fun l _ S => (G.call k.init l S).bind fun d S => match d with | .ins c' fs => if c' = c then R.ok (D.ins c' fs) S else .bad | _ => .bad) (h.eq fun v S => by rw [ev]; simp only [hk] <;> rfl)).wk fun vs H1 ⟨l, F1, ρ1, v1, S1, he1, hs, r, q⟩ hl x dx hx hdx hne => ?_
    exact new_fin hs (r.app (hdd F1 ρ1)) (by rw [List.length_append, hl]; omega) (by rw [← hfill l S1 (by rw [r.len]; exact hl)]; exact q) x dx hx hdx hne
/-! ### methods -/
structure MthF (X : Cx) (Z : Ci) (G : Ga) (m : Nat) (name : Str) (n : Nat) : Prop where
  ex : ∃ c k f, G.cls c = some k ∧ k.mth m = some f
  one : ∀ c k f, G.cls c = some k → k.mth m = some f → ∃ a, Cls X.K (Z.ca c) ∧ Meth X.K (Z.ca c) name a ∧ (∀ y ∈ Z.cn c, y ≠ name) ∧ CalF X Z (G.call f) a (n + 1)
theorem _root_.L2.PE.any {ι : Type} {P : ι → Prop} {e : Expr} {t : ι → TE} (h : ∀ i, P i → PE X e (t i)) : PE X e (fun σ H Q => ∃ i, P i ∧ t i σ H Q) := ⟨fun pins s σ H Q I ⟨i, p, q⟩ => (h i p).run pins s σ H Q I q⟩
theorem zip_lookup {y : Str} : ∀ {ns : List Str} {vs : List V}, (∀ x ∈ ns, x ≠ y) → (ns.zip vs).lookup y = none
  | [], _, _ => rfl
  | n :: ns, [], _ => rfl
  | n :: ns, v :: vs, h => by
    show List.lookup y ((n, v) :: ns.zip vs) = none
    have : (y == n) = false := beq_eq_false_iff_ne.mpr fun e => h n (by simp) e.symm
    simp only [List.lookup, this]
    exact zip_lookup fun x hx => h x (by simp [hx])
theorem se_mth {m : Nat} {a : Ex} {es : Exs} {o : Expr} {y : Str} {as : List Expr} {apos pos} {pl : Sem Bool} (hM : MthF X Z G m y (exN es)) (tk : L2.Takes X W) (hao : PE X o (tE Z W G a))
    (ha : PA X as (tEs Z W G es)) (he : ∀ b bs, as = b :: bs → starEach as X.env = (false, eval b X.env) :: starEach bs X.env ∧ (backTo pos (starEach bs X.env)).any (·.1) = false) (hn : as = [] → es = .nil)
    (ht : eval (.Call (.Attribute o y apos) as [] pos) X.env = (do
      let ov ← eval o X.env
      standAt apos.atName
      let (g, first) ← holding [ov] (getMethod ov y pl)
      callWith pos g first (backTo pos (starEach as X.env)) (backToKw pos (keywordEach [] X.env)))) : PE X (.Call (.Attribute o y apos) as [] pos) (tE Z W G (.mth m a es)) := by
  have evm : ∀ v S, ev G (.mth m a es) v S = (ev G a v S).bind fun x S => match x with
    | .ins c fs => (match (G.cls c).bind fun k => k.mth m with
      | some f => (evs G es v S).bind fun l S => G.call f (.ins c fs :: l) S
      | none => .bad)
    | _ => .bad := fun v S => by rw [ev] <;> rfl
  have one : ∀ i : Nat × Cl × Nat, (G.cls i.1 = some i.2.1 ∧ i.2.1.mth m = some i.2.2) → PE X (.Call (.Attribute o y apos) as [] pos) (fun σ H Q => ∃ F ρ v S, EnvR Z F ρ v σ H ∧ StoR Z F ρ S H ∧ (∀ d S1, ev G a v S = .ok d S1 → ∃ fs, d = .ins i.1 fs) ∧ PostA Z W (ev G (.mth m a es) v S) (pV Z) F ρ σ H Q) := by
    rintro ⟨c, k, f⟩ ⟨h1, h2⟩
    simp only at h1 h2
    obtain ⟨ad, hc, hme, hno, C⟩ := hM.one c k f h1 h2
    obtain ⟨fd, ps, dvs, ds, dd, n, F, hr, hb, hd, hlen, hdd, hfill⟩ := C.ok
    have key : ∀ {t : TA}, (∀ {σ H} {R : List V → Hp → Prop}, tEs Z W G es σ H (fun vs H1 => vs.length = exN es → R vs H1) → t σ H R) → ∀ σ H Q, (∃ F ρ v S, EnvR Z F ρ v σ H ∧ StoR Z F ρ S H ∧ (∀ d S1, ev G a v S = .ok d S1 → ∃ fs, d = .ins c fs) ∧ PostA Z W (ev G (.mth m a es) v S) (pV Z) F ρ σ H Q) →
        tMthS (Z.ca c) y (spF Z (G.call f) ps.length) dvs (WE W) (tE Z W G a) t σ H Q := by
      rintro t ht σ H Q ⟨F, ρ, v, S, he1, hs, hd1, hp⟩
      rw [evm] at hp
      refine ⟨F, ρ, v, S, he1, hs, ?_⟩
      cases q : ev G a v S with
      | bad => rw [q] at hp; exact hp.elim
      | ex k fs S1 => rw [q] at hp; exact hp
      | ok d S1 =>
        obtain ⟨fs, rfl⟩ := hd1 d S1 q
        rw [q] at hp
        simp only [R.bind, h1, Option.bind_some, h2] at hp
        intro x F1 ρ1 H1 e1 s1 r1
        cases r1 with
        | @ins a1 dx _ vs _ g1 g2 g3 =>
          refine ⟨a1, dx, _, rfl, s1.le _ _ g1, zip_lookup hno, ht ?_⟩
          have hp' := PostA.ext hp e1
          refine ⟨F1, ρ1, v, S1, he1.ext e1, s1, (PostA.bind (P := pVs Z) hp').mono fun ls ws F2 ρ2 H2 e2 p2 k2 hl => ?_⟩
          obtain ⟨l, F3, ρ3, S3, e3, s3, p3, q3⟩ := k2 ws p2
          have ri : Rep Z F3 ρ3 (.ins c fs) (.ref a1) := e3.rep (.ins g1 g2 g3)
          have hlen' : (V.ref a1 :: (ws ++ dvs)).length = ps.length := by simp [hl]; omega
          refine ⟨hlen', F3, ρ3, S3, .ins c fs :: l ++ dd, s3, Reps.app (.cons ri p3) (hdd F3 ρ3), ?_⟩
          rw [← hfill (.ins c fs :: l) S3 (by simp [p3.len, hl])]
          exact q3.slots
    cases as with
    | nil =>
      obtain rfl := hn rfl
      refine (methS0 (pl := pl) (E := WE W) hao hc hme F hr hb hd (fun σ => passAt tk σ) ht).imp (key fun {σ H R} ⟨F, ρ, v, S, h1, h2, h3⟩ => ?_)
      exact (PostA.done (P := pVs Z) (W := W) (σ := σ) (Q := fun vs H1 => vs.length = exN .nil → R vs H1) (by unfold evs at h3; exact h3) h2 .nil) rfl
    | cons b bs =>
      obtain ⟨k1, k2⟩ := he b bs rfl
      exact (methS (pl := pl) (E := WE W) hao hc hme F hr hb hd (fun σ => passAt tk σ) (tEs_len ha) k1 k2 ht).imp (key fun h => h)
  refine (PE.any one).imp fun σ H Q ⟨F, ρ, v, S, he1, hs, hp⟩ => ?_
  have hp0 := hp
  rw [evm] at hp
  cases q : ev G a v S with
  | bad => rw [q] at hp; exact hp.elim
  | ex k fs S1 =>
    obtain ⟨c, k, f, h1, h2⟩ := hM.ex
    exact ⟨(c, k, f), ⟨h1, h2⟩, F, ρ, v, S, he1, hs, fun d S1 e => (by rw [q] at e; cases e), hp0⟩
  | ok d S1 =>
    rw [q] at hp
    cases d with
    | ins c fs =>
      simp only [R.bind] at hp
      cases h1 : G.cls c with
      | none => rw [h1] at hp; exact hp.elim
      | some k =>
        simp only [h1, Option.bind_some] at hp
        cases h2 : k.mth m with
        | none => rw [h2] at hp; exact hp.elim
        | some f => exact ⟨(c, k, f), ⟨h1, h2⟩, F, ρ, v, S, he1, hs, fun d S1 e => (by rw [q] at e; cases e; exact ⟨fs, rfl⟩), hp0⟩
    | _ => exact hp.elim
end
end Mi

set_option Elab.async false
set_option linter.all false
set_option maxRecDepth 100000
set_option maxHeartbeats 4000000
/-! Mi, part 41: == and != of instances by their own def, == of tuples and lists of them. -/
namespace Mi
open PySem PySem.Spec PyProof.Rows L2
/-- what == asks of the classes -/
structure EqF (X : Cx) (Z : Ci) (G : Ga) : Prop where
  ex : ∃ kk, Room (kk + 5) X.A ∧ ∀ c k f, G.cls c = some k → k.eq = some f → ∃ (a : Addr) (fd : FuncData) (ps : List Str), FnOk X.prog X.w X.K X.mg X.base (L2.CX X.prog X.w) kk a fd ps (spF Z (G.call f) 2) ∧ Binds X.K fd ps [] ∧
    PySem.W.findIn X.K (.ref (Z.ca c)) "__eq__" = some (some (.ref a)) ∧ PySem.W.isFn X.K (.ref a) = true ∧ PySem.W.findIn X.K (.ref (Z.ca c)) "__ne__" = some (some (.builtin "object.__ne__")) ∧ PySem.W.mroIn X.K (Z.ca c) (.type "object") = some true
section
variable {Z : Ci} {W : WX} {G : Ga} {X : Cx}
theorem noDr_all {F : Hp} {ρ ρ' : List Addr} {n : Nat} (hd : ∀ d v, noDr n d = true → Rep Z F ρ d v → Rep Z F ρ' d v) : ∀ {l : List D} {vs : List V}, l.all (noDr n) = true → Reps Z F ρ l vs → Reps Z F ρ' l vs
  | [], _, _, r => by cases r; exact .nil
  | d :: l, _, h, r => by
    cases r with
    | cons r1 r2 =>
      rw [List.all_cons, Bool.and_eq_true] at h
      exact .cons (hd _ _ h.1 r1) (noDr_all hd h.2 r2)
theorem noDr_rep {F : Hp} {ρ ρ' : List Addr} : ∀ (n : Nat) (d : D) (v : V), noDr n d = true → Rep Z F ρ d v → Rep Z F ρ' d v
  | 0, _, _, h, _ => by cases h
  | n + 1, d, v, h, r => by
    cases r with
    | non => exact .non
    | bl => exact .bl
    | int => exact .int
    | str => exact .str
    | lst a r => exact .lst a (noDr_all (noDr_rep n) (by simpa only [noDr] using h) r)
    | tup a r => exact .tup a (noDr_all (noDr_rep n) (by simpa only [noDr] using h) r)
    | ins a hl r => exact .ins a hl (noDr_all (noDr_rep n) (by simpa only [noDr] using h) r)
    | dr _ => cases h
    | fn _ _ _ => cases h
/-- the state behind a test -/
def Aft (X : Cx) (Z : Ci) (pins : List (Addr × Obj)) (σ : L2.St) (F : Hp) (ρ : List Addr) (S : Sto) (H : Hp) (s : Shared) : Prop := ∃ H' F', Inv X pins σ H' s ∧ Mi.Ext nO F ρ H F' ρ H' ∧ StoR Z F' ρ S H'
def BoM (X : Cx) (Z : Ci) (G : Ga) (n k : Nat) : Prop := ∀ (A : Around) (pins : List (Addr × Obj)) (s : Shared) (σ : L2.St) (H : Hp) (x y : V) (u v : Value) (F : Hp) (ρ : List Addr) (S : Sto) (dx dy : D), L2.Sub X k A → Inv X pins σ H s → RelV x u → RelV y v → StoR Z F ρ S H → Rep Z F ρ dx x → Rep Z F ρ dy y → eqN G n dx dy = true →
  wpAny (model X.prog X.w) A (eqBool u v) (fun r s' => r = true ∧ Aft X Z pins σ F ρ S H s') X.xe s
def RcM (X : Cx) (Z : Ci) (G : Ga) (n k : Nat) : Prop := ∀ (A : Around) (pins : List (Addr × Obj)) (s : Shared) (σ : L2.St) (H : Hp) (x y : V) (u v : Value) (F : Hp) (ρ : List Addr) (S : Sto) (dx dy : D), L2.Sub X k A → Inv X pins σ H s → RelV x u → RelV y v → StoR Z F ρ S H → Rep Z F ρ dx x → Rep Z F ρ dy y → isBox dx = true → eqN G n dx dy = true →
  wpAny (model X.prog X.w) A (richCompare .Eq u v) (fun r s' => r = .bool true ∧ Aft X Z pins σ F ρ S H s') X.xe s
theorem eqAll_at {f : D → D → Bool} : ∀ {l m : List D}, eqAll f l m = true → l.length = m.length ∧ ∀ (i : Nat) x y, l[i]? = some x → m[i]? = some y → f x y = true
  | [], [], _ => ⟨rfl, fun i x y h => by simp at h⟩
  | [], _ :: _, h => by cases h
  | _ :: _, [], h => by cases h
  | a :: l, b :: m, h => by
    simp only [eqAll, Bool.and_eq_true] at h
    obtain ⟨e, g⟩ := eqAll_at h.2
    refine ⟨by simp [e], fun i x y h1 h2 => ?_⟩
    cases i with
    | zero => cases h1; cases h2; exact h.1
    | succ i => exact g i x y (by simpa using h1) (by simpa using h2)
theorem aft_here {pins : List (Addr × Obj)} {σ : L2.St} {F H : Hp} {ρ : List Addr} {S : Sto} {s : Shared} (I : Inv X pins σ H s) (hs : StoR Z F ρ S H) : Aft X Z pins σ F ρ S H s := ⟨H, F, I, .refl, hs⟩
theorem aft_turn {n k : Nat} (ih : BoM X Z G n k) {A : Around} (sb : L2.Sub X (k + 1) A) {pins : List (Addr × Obj)} {σ : L2.St} {F H : Hp} {ρ : List Addr} {S : Sto} {l m : List D} {vs ws : List V} {its its2 : List Value} (e : eqAll (eqN G n) l m = true) (r1 : Reps Z F ρ l vs) (r2 : Reps Z F ρ m ws) (v1 : Vals vs its) (v2 : Vals ws its2)
    (i : Nat) (h1 : i < its.toArray.size) (h2 : i < its2.toArray.size) (s' : Shared) (q : Aft X Z pins σ F ρ S H s') :
    wpAny (model X.prog X.w) A.in1 (eqBool its.toArray[i] its2.toArray[i]) (fun r s2 => r = true ∧ Aft X Z pins σ F ρ S H s2) X.xe s' := by
  obtain ⟨H1, F1, I1, x1, t1⟩ := q
  have k1 : i < l.length := by rw [r1.len, v1.length]; simpa using h1
  have k2 : i < m.length := by rw [r2.len, v2.length]; simpa using h2
  obtain ⟨x, hx, rx⟩ := r1.get (List.getElem?_eq_getElem k1)
  obtain ⟨y, hy, ry⟩ := r2.get (List.getElem?_eq_getElem k2)
  obtain ⟨u, hu, ru⟩ := v1.get hx
  obtain ⟨w, hw, rw_⟩ := v2.get hy
  have eu : its.toArray[i] = u := by
    have h1' : i < its.length := by simpa using h1
    have : its[i]? = some its[i] := List.getElem?_eq_getElem h1'
    rw [this] at hu
    simpa using Option.some.inj hu
  have ew : its2.toArray[i] = w := by
    have h2' : i < its2.length := by simpa using h2
    have : its2[i]? = some its2[i] := List.getElem?_eq_getElem h2'
    rw [this] at hw
    simpa using Option.some.inj hw
  rw [eu, ew]
  refine wpAny_mono (ih A.in1 pins s' σ H1 x y u w F1 ρ S l[i] m[i] sb.in1 I1 ru rw_ t1 (x1.rep rx) (x1.rep ry) ((eqAll_at e).2 i _ _ (List.getElem?_eq_getElem k1) (List.getElem?_eq_getElem k2))) (fun r s2 z => ?_) fun _ _ z => z
  obtain ⟨hr, H2, F2, I2, x2, t2⟩ := z
  exact ⟨hr, H2, F2, I2, x1.trans x2, t2⟩
/-- what the own == promises, with the store out of sight -/
theorem own_call {kk c f : Nat} {a : Addr} {fd : FuncData} {ps : List Str} {A : Around} {pins : List (Addr × Obj)} {s : Shared} {σ : L2.St} {H F : Hp} {ρ : List Addr} {S : Sto} {p q : Addr} {fs gs : List D} {d : Nat}
    (Fk : FnOk X.prog X.w X.K X.mg X.base (L2.CX X.prog X.w) kk a fd ps (spF Z (G.call f) 2)) (hb : Binds X.K fd ps []) (tk : L2.Takes X W0) (sb : L2.Sub X kk A) (I : Inv X pins σ H s) (hs : StoR Z F ρ S H) (r1 : Rep Z F ρ (.ins c fs) (.ref p)) (r2 : Rep Z F ρ (.ins d gs) (.ref q))
    (n1 : noDr 60 (.ins c fs) = true) (n2 : noDr 60 (.ins d gs) = true) (hy : isYes (G.call f [.ins c fs, .ins d gs] []) = true) :
    wpAny (model X.prog X.w) A (call (.ref a) [.ref p, .ref q]) (fun v s' => v = .bool true ∧ Aft X Z pins σ F ρ S H s') X.xe s := by
  have hsp : spF Z (G.call f) 2 [.ref p, .ref q] H (fun v H' => v = .bl true ∧ ∃ F', Mi.Ext nO F ρ H F' ρ H' ∧ StoR Z F' ρ S H') (fun _ _ _ => False) := by
    refine ⟨rfl, F, [], [], [.ins c fs, .ins d gs], ⟨hs.le, rfl, List.nodup_nil, fun n kv b h => (by simp at h), hs.tab, hs.ftb⟩, .cons (noDr_rep 60 _ _ n1 r1) (.cons (noDr_rep 60 _ _ n2 r2) .nil), ?_⟩
    cases e : G.call f [.ins c fs, .ins d gs] [] with
    | bad => rw [e] at hy; cases hy
    | ex c fs S' => rw [e] at hy; cases hy
    | ok dd S' =>
      rw [e] at hy
      cases dd <;> first | (cases hy; done) | skip
      rename_i bb
      have hbb : bb = true := hy
      subst hbb
      intro v F' ρ' H' ex st rv
      cases rv
      have keep : ∀ b o, H b = some o → (∀ ps, o ≠ .tbl ps) → H' b = some o := fun b o h1 h2 => ex.keep b o h1 (by simp) (fun z => z) h2
      refine ⟨rfl, F', ⟨ex.le, fun b o h1 _ _ h2 => keep b o h1 h2, ex.dom, ex.new, [], by simp, by simp⟩, st.le, hs.len, hs.nd, fun n kv b h1 h2 => ?_, st.tab, st.ftb⟩
      obtain ⟨g1, vs, g2, g3⟩ := hs.at_ n kv b h1 h2
      refine ⟨?_, vs, keep _ _ g2 (fun _ z => by cases z), ?_⟩
      · cases z : F' b with
        | none => rfl
        | some o =>
          rcases ex.new b o z with w | w | w
          · rw [g1] at w; cases w
          · rw [g2] at w; cases w
          · exact w.elim
      · have := Reps.mono (m := []) ex.le g3
        rwa [List.append_nil] at this
  have e0 : Env0 X.prog X.w X.K X.mg X.base A X.stack s H := by
    have e := I.env0
    exact ⟨by rw [sb.fr]; exact e.frames, e.mod, e.bs, e.bsz, e.funs, e.frf, e.hok, e.bare⟩
  have hl := Fk.len _ _ _ _ hsp
  have r2 : Vals [V.ref p, V.ref q] [Value.ref p, Value.ref q] := .cons rfl (.cons rfl .nil)
  refine wpAny_call (codeAny_mono (Fk.run A X.stack s H ⟨[.ref p, .ref q], []⟩ [.ref p, .ref q] [.ref p, .ref q] _ _ sb.room e0 (by
    have := hb s [.ref p, .ref q] I.kIn (by simpa using hl)
    simpa using this) r2 hsp) fun r s' hq => ?_)
  match r, hq with
  | .error e, hq => exact (passes_call (E := fun _ _ _ => False) tk (fun _ _ _ _ z => z.elim)) pins σ H s e s' I hq
  | .ok (.ret w), hq =>
    obtain ⟨z, H', I', rz, ez, F', ex, st⟩ := I.after hq
    subst ez
    cases rz
    exact ⟨rfl, H', F', I', ex, st⟩
  | .ok .next, hq => exact hq.elim
  | .ok .brk, hq => exact hq.elim
  | .ok .cont, hq => exact hq.elim
theorem ins_of {F H : Hp} {ρ : List Addr} {S : Sto} {c : Nat} {fs : List D} {p : Addr} (hs : StoR Z F ρ S H) (r : Rep Z F ρ (.ins c fs) (.ref p)) : ∃ dx l, H p = some (.ins (Z.ca c) dx l) := by
  cases r with
  | ins h hl r => exact ⟨_, _, hs.le _ _ h⟩
theorem eqm_ok (tk : L2.Takes X W0) (hK : X.K = Z.K) {kk : Nat} (E : ∀ c k f, G.cls c = some k → k.eq = some f → ∃ (a : Addr) (fd : FuncData) (ps : List Str), FnOk X.prog X.w X.K X.mg X.base (L2.CX X.prog X.w) kk a fd ps (spF Z (G.call f) 2) ∧ Binds X.K fd ps [] ∧
    PySem.W.findIn X.K (.ref (Z.ca c)) "__eq__" = some (some (.ref a)) ∧ PySem.W.isFn X.K (.ref a) = true ∧ PySem.W.findIn X.K (.ref (Z.ca c)) "__ne__" = some (some (.builtin "object.__ne__")) ∧ PySem.W.mroIn X.K (Z.ca c) (.type "object") = some true) :
    ∀ n, RcM X Z G n (kk + n) ∧ BoM X Z G n (kk + n)
  | 0 => ⟨fun A pins s σ H x y u v F ρ S dx dy sb I rx ry hs r1 r2 hbx e => (by cases e), fun A pins s σ H x y u v F ρ S dx dy sb I rx ry hs r1 r2 e => (by cases e)⟩
  | n + 1 => by
    obtain ⟨_, ih⟩ := eqm_ok tk hK E n
    have rc : RcM X Z G (n + 1) (kk + (n + 1)) := by
      intro A pins s σ H x y u v F ρ S dx dy sb I rx ry hs r1 r2 hbx e
      have sb : L2.Sub X (kk + n + 1) A := sb
      cases dx <;> cases dy <;> first | (cases hbx; done) | (simp [eqN] at e; done) | skip
      case lst.lst l m =>
        have e : eqAll (eqN G n) l m = true := e
        cases r1 with
        | @lst a vs _ h1 p1 =>
          cases r2 with
          | @lst b ws _ h2 p2 =>
            cases rx
            cases ry
            refine GQ.rc_listG (N := vs.length) sb.room.units0 (fun _ s' => Aft X Z pins σ F ρ S H s') (fun i s' q => ?_) (fun s' q => ⟨rfl, q⟩) (aft_here I hs)
            obtain ⟨H1, F1, I1, x1, t1⟩ := id q
            obtain ⟨_, its, k1, w1, g1⟩ := (rdM t1.le (rdM x1.le h1)).ok I1.hok
            obtain ⟨_, its2, k2, w2, g2⟩ := (rdM t1.le (rdM x1.le h2)).ok I1.hok
            have el := (eqAll_at e).1
            refine ⟨its.toArray, its2.toArray, k1, k2, g1, g2, by rw [List.size_toArray, ← w1.length], by rw [List.size_toArray, ← w2.length, ← p2.len, ← el, p1.len], fun j1 j2 => ?_⟩
            exact aft_turn ih sb e p1 p2 w1 w2 i j1 j2 s' q
      case tup.tup l m =>
        have e : eqAll (eqN G n) l m = true := e
        cases r1 with
        | @tup a vs _ h1 p1 =>
          cases r2 with
          | @tup b ws _ h2 p2 =>
            cases rx
            cases ry
            obtain ⟨its, w1, z1, _⟩ := I.tuple (a := a) (xs := vs) (by rw [hK]; exact seqT hs.le h1)
            obtain ⟨its2, w2, z2, _⟩ := I.tuple (a := b) (xs := ws) (by rw [hK]; exact seqT hs.le h2)
            have el := (eqAll_at e).1
            have hsz : its.toArray.size = its2.toArray.size := by rw [List.size_toArray, List.size_toArray, ← w1.length, ← w2.length, ← p1.len, ← p2.len]; exact el
            exact GQ.rc_tupG hsz sb.room.units0 (fun _ s' => Aft X Z pins σ F ρ S H s') z1 z2 (fun i j1 j2 s' q => aft_turn ih sb e p1 p2 w1 w2 i j1 j2 s' q) (fun s' q => ⟨rfl, q⟩) (aft_here I hs)
      case ins.ins c fs d gs =>
        simp only [eqN, Bool.and_eq_true, decide_eq_true_eq] at e
        obtain ⟨⟨⟨rfl, n1⟩, n2⟩, e⟩ := e
        cases hc : G.cls c with
        | none => rw [hc] at e; cases e
        | some k =>
          rw [hc] at e
          cases hf : k.eq with
          | none => simp [hf] at e
          | some f =>
            have e : isYes (G.call f [.ins c fs, .ins c gs] []) = true := by simpa [hf] using e
            obtain ⟨a, fd, ps, Fk, hb, q1, q2, _, _⟩ := E c k f hc hf
            have sbk : L2.Sub X kk A := sb.mono (by omega)
            have r1' := r1
            have r2' := r2
            cases r1 with
            | ins h1 hl1 p1 =>
              cases r2 with
              | ins h2 hl2 p2 =>
                cases rx
                cases ry
                obtain ⟨mA, J, _⟩ := ins_get I.hok (hs.le _ _ h1)
                obtain ⟨mB, J', _⟩ := ins_get I.hok (hs.le _ _ h2)
                obtain ⟨od, J, _⟩ := J.look
                obtain ⟨od', J', _⟩ := J'.look
                obtain ⟨m, hF⟩ := I.fr
                refine PySem.W.cmp_K (op := .Eq) (tb := .ref (Z.ca c)) sb.room.units0 hF I.ok.mod.kin J J'.type (by simp [PySem.W.notFirst]) q1 q2 ?_
                refine wpAny_mono (own_call Fk hb tk sbk I hs r1' r2' n1 n2 e) (fun v s' z => ?_) fun _ _ z => z
                obtain ⟨rfl, z⟩ := z
                exact ⟨rfl, z⟩
    refine ⟨rc, ?_⟩
    intro A pins s σ H x y u v F ρ S dx dy sb I rx ry hs r1 r2 e
    cases hbx : isBox dx with
    | true =>
      have hby : isBox dy = true := by
        cases dx <;> cases dy <;> first | rfl | (simp [eqN] at e; done) | (cases hbx; done)
      have ref : ∀ {d : D} {z : V}, isBox d = true → Rep Z F ρ d z → ∃ a, z = .ref a := fun {d z} hb r => by
        cases r <;> first | exact ⟨_, rfl⟩ | (cases hb; done)
      obtain ⟨a, rfl⟩ := ref hbx r1
      obtain ⟨b, rfl⟩ := ref hby r2
      have rx' := rx
      have ry' := ry
      cases rx
      cases ry
      by_cases hab : a = b
      · subst hab
        exact SeqAt.EqAt.same (A := A) (s := s) (.ref a) X.prog X.w X.xe _ ⟨rfl, aft_here I hs⟩
      · refine GQ.eqBool_refG hab (wpAny_mono (rc A pins s σ H _ _ _ _ F ρ S dx dy sb I rx' ry' hs r1 r2 hbx e) (fun r s' q => ?_) fun _ _ z => z)
        obtain ⟨hr, q⟩ := q
        exact ⟨true, hr, rfl, q⟩
    | false =>
      have leaf : flatV x = true ∧ flatV y = true ∧ eqV x y = true := by
        cases r1 <;> first | (cases hbx; done) | skip
        all_goals (cases r2 <;> first | (simp [eqN] at e; done) | skip)
        all_goals simp only [eqN] at e
        all_goals first
          | exact ⟨rfl, rfl, rfl⟩
          | (have e := beq_iff_eq.mp e; subst e; exact ⟨rfl, rfl, by simp [eqV]⟩)
      obtain ⟨l1, l2, l3⟩ := leaf
      have q := eqAt_V (A := A) (s := s) rx ry l1 l2
      rw [l3] at q
      exact q X.prog X.w X.xe _ ⟨rfl, aft_here I hs⟩
/-- x != y, decided by x's own == -/
theorem ne_try {K : PySem.W.Frag} {prog : Program} {w : World} {A : Around} {s : Shared} {C x f : Addr} {b : Value} {ox : Obj} {od : Option Obj} {E : Value → Shared → Prop} {Q : Option Value → Shared → Prop} (hu : A.units + 1 < cLine) (Y : K.In s.heap) (I : PySem.W.InstAt s.heap x ox C od) (hn : PySem.W.findIn K (.ref C) "__ne__" = some (some (.builtin "object.__ne__")))
    (ho : PySem.W.mroIn K C (.type "object") = some true) (hs : PySem.W.findIn K (.ref C) "__eq__" = some (some (.ref f))) (hf : PySem.W.isFn K (.ref f) = true)
    (h : wpAny (model prog w) A.in1 (call (.ref f) [.ref x, b]) (fun v s' => ∃ r, v = .bool r ∧ Q (some (.bool (!r))) s') E s) : wpAny (model prog w) A (tryCompare (.ref x) "__ne__" b) Q E s := by
  have body : wpAny (model prog w) A.in1 (Builtin.«object.__ne__» ⟨[.ref x, b], []⟩) (fun fin s' => ∃ v, fin = .done (.ret (.bool v)) ∧ Q (some (.bool v)) s') E s := by
    unfold Builtin.«object.__ne__»
    refine wpAny_bind (wpAny_of_eq (a := (Value.ref x, [b])) rfl ?_)
    refine wpAny_bind (wpAny_cRoomFor hu ?_)
    refine wpAny_bind (PySem.W.ifBound_K Y I hs hf (wpAny_mono h (fun v s' hv => ?_) fun _ _ e => e))
    obtain ⟨r, rfl, q⟩ := hv
    refine wpAny_bind (m := truthy (.bool r)) (wpAny_truthy_bool (wpAny_pure ⟨_, rfl, q⟩))
  have called : wpAny (model prog w) A (call (.builtin "object.__ne__") [.ref x, b]) (fun v s' => ∃ r, v = .bool r ∧ Q (some (.bool r)) s') E s := by
    refine wpAny_call (codeAny_call_builtin F.cmp_object.ne.plain F.cmpEntry_ne (PySem.W.check_slot F.cmpKind_ne F.cmpSplit_ne (I.type.andThen (PySem.W.looks_subIn (t := .ref C) Y ho)) (F.cmpArgs_ne _ _) (wpAny_mono body (fun v s' hv => ?_) fun _ _ e => e)))
    obtain ⟨r, rfl, q⟩ := hv
    exact ⟨r, rfl, q⟩
  unfold tryCompare
  refine wpAny_bind ?_
  simp only [callSpecialIfBound?, bindSpecialIfBound?]
  refine wpAny_holding (wpAny_bind (wpAny_bind (wpAny_bind (I.type.here ((PySem.W.looks_findIn Y hn).here ?_)))))
  refine wpAny_bind (wpAny_askSetting (wpAny_ite ?_))
  have fin : wpAny (model prog w) A (call (.builtin "object.__ne__") ([.ref x] ++ [b]) >>= fun v => pure (some v)) (fun r s' => wpAny (model prog w) A (match r with
      | some Value.notImplemented => pure none
      | none => pure none
      | some v => pure (some v)) Q E s') E s := wpAny_bind (wpAny_mono called (fun v s' hv => by
    obtain ⟨r, rfl, q⟩ := hv
    exact wpAny_pure (wpAny_pure q)) fun _ _ e => e)
  split
  · exact wpAny_bind (wpAny_of_eq (F.cmp_object.ne.bind _) (wpAny_pure (by exact fin)))
  · exact wpAny_tryCatch (wpAny_bind (wpAny_of_eq (F.cmp_object.ne.bind _) (wpAny_pure (by exact fin))))
/-- every comparison, by the interpreter -/
theorem opc_gen (tk : L2.Takes X W0) (hK : X.K = Z.K) (h1 : ∀ o, OpR X (compareOp (cmO o)) (rC Z o)) (E : EqF X Z G) : ∀ o, OpR X (compareOp (cmO o)) (rCG Z G o) := by
  intro o pins s σ H x y v u Q I rx ry ⟨F, ρ, S, dx, dy, hs, r1, r2, q⟩
  obtain ⟨kk, hr, E⟩ := E.ex
  cases e : cmpP o dx dy with
  | some b =>
    refine h1 o pins s σ H x y v u Q I rx ry ⟨F, ρ, S, dx, dy, b, hs, r1, r2, e, ?_⟩
    unfold cmpG at q
    rw [e] at q
    exact q _ _ _ _ .refl hs rfl
  | none =>
    unfold cmpG at q
    rw [e] at q
    have sb : L2.Sub X (kk + 4) X.A := ⟨hr.mono (by omega), rfl⟩
    cases o <;> first | exact q.elim | skip
    case eq =>
      simp only at q
      split at q
      · rename_i e4
        rw [Bool.and_eq_true] at e4
        obtain ⟨hbx, e4⟩ := e4
        refine wpAny_mono ((eqm_ok tk hK E 4).1 X.A pins s σ H x y v u F ρ S dx dy sb I rx ry hs r1 r2 hbx e4) (fun r s' z => ?_) fun _ _ z => z
        obtain ⟨rfl, H', F', I', x', t'⟩ := z
        exact ⟨.bl true, H', I', rfl, q _ F' ρ H' x' t' rfl⟩
      · exact q.elim
    case ne =>
      simp only at q
      split at q
      · rename_i c fs d gs
        split at q
        · rename_i e4
          simp only [eqN, Bool.and_eq_true, decide_eq_true_eq] at e4
          obtain ⟨⟨⟨rfl, n1⟩, n2⟩, e4⟩ := e4
          cases hc : G.cls c with
          | none => rw [hc] at e4; cases e4
          | some k =>
            rw [hc] at e4
            cases hf : k.eq with
            | none => simp [hf] at e4
            | some f =>
              have e4 : isYes (G.call f [.ins c fs, .ins c gs] []) = true := by simpa [hf] using e4
              obtain ⟨a, fd, ps, Fk, hb, q1, q2, q3, q4⟩ := E c k f hc hf
              have sbk : L2.Sub X kk X.A.in1.in1 := (sb.mono (m := kk + 1 + 1) (by omega)).in1.in1
              have r1' := r1
              have r2' := r2
              cases r1 with
              | @ins p _ _ _ _ h1 hl1 p1 =>
                cases r2 with
                | @ins p' _ _ _ _ h2 hl2 p2 =>
                  cases rx
                  cases ry
                  obtain ⟨mA, J, _⟩ := ins_get I.hok (hs.le _ _ h1)
                  obtain ⟨mB, J', _⟩ := ins_get I.hok (hs.le _ _ h2)
                  obtain ⟨od, J, _⟩ := J.look
                  obtain ⟨od', J', _⟩ := J'.look
                  have hu : X.A.units + 1 < cLine := by have := hr.un; omega
                  have one : wpAny (model X.prog X.w) X.A (tryCompare (.ref p) "__ne__" (.ref p')) (fun r s' => r = some (.bool false) ∧ Aft X Z pins σ F ρ S H s') X.xe s := by
                    refine ne_try hu I.kIn J q3 q4 q1 q2 (wpAny_mono (own_call Fk hb tk (sb.mono (m := kk + 1) (by omega)).in1 I hs r1' r2' n1 n2 e4) (fun v s' z => ?_) fun _ _ z => z)
                    obtain ⟨rfl, z⟩ := z
                    exact ⟨true, rfl, rfl, z⟩
                  show wpAny _ _ (richCompare .NotEq (.ref p) (.ref p')) _ _ _
                  unfold richCompare
                  simp only [oneThing_ref]
                  refine wpAny_holding ?_
                  refine wpAny_bind (wpAny_cRoomFor (by omega) ?_)
                  rw [cmpInfo_NotEq]
                  dsimp only
                  refine wpAny_bind (J.type.here ?_)
                  refine wpAny_bind (J'.type.here ?_)
                  rw [show (Value.ref (Z.ca c) != Value.ref (Z.ca c)) = false from by simp]
                  simp only [Bool.false_eq_true, if_false]
                  refine wpAny_bind (wpAny_pure ?_)
                  simp only [Bool.false_eq_true, if_false]
                  refine wpAny_bind (wpAny_mono one (fun r s' z => ?_) fun _ _ z => z)
                  obtain ⟨rfl, H', F', I', x', t'⟩ := z
                  exact wpAny_pure ⟨.bl false, H', I', rfl, q _ F' ρ H' x' t' rfl⟩
        · exact q.elim
      · exact q.elim
end
end Mi

set_option Elab.async false
set_option linter.all false
set_option maxRecDepth 100000
set_option maxHeartbeats 4000000
/-! Mi, part 18b: dicts of the store. -/
namespace Mi
open PySem PySem.Spec PyProof.Rows L2
section
variable {Z : Ci} {W : WX} {G : Ga} {X : Cx}
theorem toS_inj1 {s t : List Nat} (h : toS s = toS t) : s = t := by
  unfold toS at h
  injection h with h
  exact congrArg Array.toList h
theorem key_ne {s t : List Nat} (h : s ≠ t) : (Sum.inr (toS s) : Key) ≠ Sum.inr (toS t) := fun e => h (toS_inj1 (Sum.inr.inj e))
theorem lookK_some {F : Hp} {ρ : List Addr} {k : List Nat} : ∀ {kv : Kv} {vs : List V} {d : D}, lookK k kv = some d → Reps Z F ρ (kv.map (·.2)) vs → ∃ v, valV ((keysOf kv).zip vs) (.inr (toS k)) = some v ∧ Rep Z F ρ d v
  | [], vs, d, h, r => by cases h
  | (t, e) :: kv, vs, d, h, r => by
    cases r with
    | cons r1 r2 =>
      rename_i v vs
      unfold lookK at h
      show ∃ w, valV ((Sum.inr (toS t), v) :: (keysOf kv).zip vs) (.inr (toS k)) = some w ∧ _
      by_cases q : t = k
      · subst q
        rw [if_pos rfl] at h; cases h
        refine ⟨v, ?_, r1⟩
        simp [valV]
      · rw [if_neg q] at h
        obtain ⟨w, h1, h2⟩ := lookK_some h r2
        refine ⟨w, ?_, h2⟩
        rw [← h1]
        simp [valV, key_ne q, Ne.symm (key_ne q)]
theorem put_any {F : Hp} {ρ : List Addr} {k : List Nat} : ∀ {kv : Kv} {vs : List V}, Reps Z F ρ (kv.map (·.2)) vs → (((keysOf kv).zip vs).any fun p => decide (p.1 = (Sum.inr (toS k) : Key))) = kv.any fun p => decide (p.1 = k)
  | [], vs, h => rfl
  | (t, e) :: kv, vs, h => by
    cases h with
    | cons r1 r2 =>
      rename_i u vs
      show (((Sum.inr (toS t), u) :: (keysOf kv).zip vs).any fun p => decide (p.1 = (Sum.inr (toS k) : Key))) = _
      rw [List.any_cons, List.any_cons, put_any r2]
      by_cases q : t = k
      · subst q; simp
      · simp [q, key_ne q]
theorem put_map {F : Hp} {ρ : List Addr} {k : List Nat} {d : D} {v : V} (r : Rep Z F ρ d v) : ∀ {kv : Kv} {vs : List V}, Reps Z F ρ (kv.map (·.2)) vs → ∃ ws, ((keysOf kv).zip vs).map (fun p => if p.1 = (Sum.inr (toS k) : Key) then (p.1, v) else p) = (keysOf (kv.map fun p => if p.1 = k then (p.1, d) else p)).zip ws ∧
    Reps Z F ρ ((kv.map fun p => if p.1 = k then (p.1, d) else p).map (·.2)) ws
  | [], vs, h => ⟨[], rfl, .nil⟩
  | (t, e) :: kv, vs, h => by
    cases h with
    | cons r1 r2 =>
      rename_i u vs
      obtain ⟨ws, h1, h2⟩ := put_map r r2
      show ∃ ws, ((Sum.inr (toS t), u) :: (keysOf kv).zip vs).map _ = _ ∧ _
      rw [List.map_cons, h1]
      by_cases q : t = k
      · subst q
        refine ⟨v :: ws, ?_, ?_⟩
        · simp [keysOf]
        · simp only [List.map_cons, if_true]; exact .cons r h2
      · refine ⟨u :: ws, ?_, ?_⟩
        · simp [keysOf, q, key_ne q]
        · simp only [List.map_cons, if_neg q]; exact .cons r1 h2
theorem keys_zip {F : Hp} {ρ : List Addr} : ∀ {kv : Kv} {vs : List V}, Reps Z F ρ (kv.map (·.2)) vs → kv.length = vs.length := fun h => by have := h.len; simpa using this
theorem putK_zip {F : Hp} {ρ : List Addr} {k : List Nat} {d : D} {v : V} {kv : Kv} {vs : List V} (r : Rep Z F ρ d v) (h : Reps Z F ρ (kv.map (·.2)) vs) : ∃ ws, L2.putK ((keysOf kv).zip vs) (.inr (toS k)) v = (keysOf (putK k d kv)).zip ws ∧ Reps Z F ρ ((putK k d kv).map (·.2)) ws := by
  unfold L2.putK putK
  rw [put_any h]
  cases q : kv.any fun p => decide (p.1 = k) with
  | true =>
    simp only [if_true]
    exact put_map r h
  | false =>
    simp only [Bool.false_eq_true, if_false]
    refine ⟨vs ++ [v], ?_, ?_⟩
    · have hl := keys_zip h
      unfold keysOf
      rw [List.map_append, List.zip_append (by simpa using hl)]
      rfl
    · rw [List.map_append]; exact h.app (.one r)
/-- a dict of the store is written -/
theorem St0.dput {B : List Bs} {v : Env} {S : Sto} {F H : Hp} {ρ : List Addr} {σ : L2.St} {n : Nat} {a : Addr} {kv kv' : Kv} {ws : List V} (st : St0 Z B v S F ρ σ H) (ha : ρ[n]? = some a) (hS : S[n]? = some kv) (hr : Reps Z F ρ (kv'.map (·.2)) ws) : St0 Z B v (setN S n kv') F ρ σ (upd H a (.dK ((keysOf kv').zip ws))) := by
  have mem : a ∈ ρ := List.mem_of_getElem? ha
  obtain ⟨hf, vs, hH, _⟩ := st.sto.at_ n kv a hS ha
  rw [setN_eq]
  refine ⟨⟨st.env.len, fun i s o h1 h2 => ?_, st.env.inj, st.env.out⟩, ⟨fun b u q => ?_, by rw [List.length_set]; exact st.sto.len, st.sto.nd, fun m kw b h1 h2 => ?_, tabs_set st.sto.tab hH noTab_dK (Same.refl F), st.sto.ftb⟩, fun b hb => ?_, st.own, st.slf⟩
  · have q := st.env.at_ i s o h1 h2
    have no : ∀ b, Own s o b → b ≠ a := fun b w e => st.env.out i s o b h1 h2 w (e ▸ mem)
    cases s with
    | un => trivial
    | va d => exact q
    | ol l => obtain ⟨b, vs, rfl, g1, g2, g3⟩ := q; exact ⟨b, vs, rfl, by rw [upd_ne (no b ⟨trivial, rfl⟩)]; exact g1, g2, g3⟩
    | sf c fs => obtain ⟨b, dx, vs, rfl, g1, g2, g3, g4⟩ := q; exact ⟨b, dx, vs, rfl, by rw [upd_ne (no b ⟨trivial, rfl⟩)]; exact g1, g2, g3, g4⟩
  · rw [upd_ne (fun z => by subst z; rw [hf] at q; cases q)]; exact st.sto.le b u q
  · rcases set_cases h1 with ⟨e, rfl⟩ | ⟨e, h1⟩
    · subst e
      rw [ha] at h2; cases h2
      exact ⟨hf, ws, upd_same, hr⟩
    · obtain ⟨g1, us, g2, g3⟩ := st.sto.at_ m kw b h1 h2
      have ne : b ≠ a := fun z => by
        subst z
        have hn := List.getElem?_eq_some_iff.mp ha
        have hm := List.getElem?_eq_some_iff.mp h2
        exact e ((List.getElem_inj st.sto.nd).mp (hm.2.trans hn.2.symm))
      exact ⟨g1, us, by rw [upd_ne ne]; exact g2, g3⟩
  · have e := st.ext b hb
    refine ⟨e.le, fun c u q h1 h2 ht => ?_, fun c q => ?_, e.new, e.pre⟩
    · obtain ⟨m, hm, hm2⟩ := e.pre
      rw [upd_ne (fun z => by
        subst z
        rw [hm] at mem
        rcases List.mem_append.mp mem with q' | q'
        · exact h1 q'
        · rw [hm2 c q'] at q; cases q)]
      exact e.keep c u q h1 h2 ht
    · by_cases z : c = a
      · subst z; rw [upd_same] at q; cases q
      · rw [upd_ne z] at q; exact e.dom c q
/-- d[key] -/
theorem se_dget {a : Ex} {k : List Nat} {x b : Expr} {pos} (hu : X.A.units + 1 < cLine) (ha : PE X x (tE Z W G a)) (hb : PE X b (tC (.str (toS k)))) (hs : NoSl b) : PE X (.Subscript x b pos) (tE Z W G (.dget a k)) := by
  refine (pe_dget hu ha hb hs).imp fun σ H Q h => ?_
  refine (tG.bind (P := pV Z) (f := ev G a) (k := fun x S0 S => match x with | .dr n => (match (getN S n).bind (lookK k) with | some d => R.ok d S | none => .bad) | _ => .bad) (h.eq fun v S => by rw [ev] <;> rfl)).wk fun y H1 ⟨d, F1, ρ1, v1, S1, he, hs1, p, q⟩ => ?_
  cases p with
  | @dr ad n hn =>
    simp only at q
    cases e : getN S1 n with
    | none => rw [e] at q; exact q.elim
    | some kv =>
      simp only [e, Option.bind_some] at q
      cases e2 : lookK k kv with
      | none => rw [e2] at q; exact q.elim
      | some d =>
        rw [e2] at q
        rw [getN_eq] at e hn
        obtain ⟨hf, vs, hH, r⟩ := hs1.at_ n kv ad e hn
        obtain ⟨w, g1, g2⟩ := lookK_some e2 r
        exact ⟨ad, w, rfl, .inl ⟨_, Sum.inr (toS k), .inl hH, rfl, g1.symm⟩, PostA.done q hs1 g2⟩
  | _ => exact q.elim
/-- d[key] = e -/
theorem ss_dset {i : Nat} {k : List Nat} {e : Ex} {st : Stmt} (h : PS X st (sDPut (tVar i) (tC (.str (toS k))) (tE Z W G e))) : PS X st (tS Z W (xs1 G (.dset i k e))) := h.imp fun E σ H ⟨B, v, S, F, ρ, s0, hp⟩ => by
  rw [xs1] at hp
  cases q : getN v i with
  | none => rw [q] at hp; exact hp.elim
  | some s =>
    rw [q] at hp
    cases s with
    | va dv =>
      cases dv with
      | dr n =>
        refine ⟨F, ρ, v, S, s0.env, s0.sto, (PostS.bind (P := pV Z) hp s0).mono fun d x F1 ρ1 H1 e1 p kk => ?_⟩
        obtain ⟨d, F2, ρ2, S2, e2, p2, s2, q2⟩ := kk x p
        obtain ⟨o, hs, y, rfl, ry⟩ := s2.env.get q
        cases ry with
        | @dr ad _ hn =>
          cases eS : getN S2 n with
          | none => rw [eS] at q2; exact q2.elim
          | some kv =>
            simp only [eS] at q2
            split at q2
            · rename_i z
              rw [getN_eq] at eS hn
              obtain ⟨hf, vs, hH, r⟩ := s2.sto.at_ n kv ad eS hn
              obtain ⟨ws, g1, g2⟩ := putK_zip (k := k) p2 r
              refine ⟨.ref ad, hs, ad, _, rfl, .inl ⟨_, Sum.inr (toS k), hH, rfl, ?_, rfl⟩, ?_⟩
              · rw [List.length_zip, ← sz_line]
                have : (keysOf kv).length = kv.length := by unfold keysOf; rw [List.length_map]
                omega
              · rw [g1]
                exact q2 σ F2 ρ2 _ (s2.dput hn eS g2)
            · exact q2.elim
      | _ => exact hp.elim
    | _ => exact hp.elim
/-- the pairs of a display -/
def trsD (Z : Ci) (W : WX) (G : Ga) : List (List Nat) → Exs → List (TE × TE)
  | k :: ks, .cons e es => (tC (.str (toS k)), tE Z W G e) :: trsD Z W G ks es
  | _, _ => []
theorem tp_of : ∀ {ks : List (List Nat)} {es : Exs} {σ : L2.St} {H : Hp} {Q : List (V × V) → Hp → Prop}, ks.length = exN es → tEs Z W G es σ H (fun vs H2 => Q ((ks.map fun k => V.str (toS k)).zip vs) H2) → tPairs (trsD Z W G ks es) σ H Q
  | [], .nil, σ, H, Q, _, ⟨F, ρ, v, S, he, hs, hp⟩ => PostA.done (P := pVs Z) (W := W) (σ := σ) (Q := fun vs H2 => Q ((([] : List (List Nat)).map fun k => V.str (toS k)).zip vs) H2) (by unfold evs at hp; exact hp) hs .nil
  | [], .cons _ _, _, _, _, h, _ => by cases h
  | _ :: _, .nil, _, _, _, h, _ => by cases h
  | k :: ks, .cons e es, σ, H, Q, hl, h => by
    show tE Z W G e σ H fun y H2 => tPairs (trsD Z W G ks es) σ H2 fun ps H3 => Q ((V.str (toS k), y) :: ps) H3
    refine (tG.bind (P := pV Z) (f := ev G e) (k := fun x v S => (evs G es v S).bind fun l S => R.ok (x :: l) S) (h.eq fun v S => by rw [evs])).wk fun y H1 ⟨d, F1, ρ1, v1, S1, he, hs, p, q⟩ => ?_
    refine tp_of (by simpa [exN] using hl) ⟨F1, ρ1, v1, S1, he, hs, (PostA.bind (P := pVs Z) q).mono fun l vs F' ρ' H' e1 p1 k1 => ?_⟩
    obtain ⟨l, F2, ρ2, S2, e2, s2, p2, q2⟩ := k1 vs p1
    exact PostA.done (P := pVs Z) q2 s2 (.cons (e2.rep p) p2)
theorem merge_id {kvs : List (Key × V)} : ∀ {acc : List (Key × V)}, (acc.map (·.1) ++ kvs.map (·.1)).Nodup → mergeK acc kvs = acc ++ kvs := by
  induction kvs with
  | nil => intro acc _; simp [mergeK]
  | cons p kvs ih =>
    intro acc h
    have hp : p.1 ∉ acc.map (·.1) := fun q => (List.nodup_append.mp h).2.2 p.1 q p.1 (by simp) rfl
    have e : L2.putK acc p.1 p.2 = acc ++ [p] := by
      unfold L2.putK
      rw [if_neg]
      intro q
      obtain ⟨x, hx, hx2⟩ := List.any_eq_true.mp q
      exact hp (List.mem_map.mpr ⟨x, hx, of_decide_eq_true hx2⟩)
    show mergeK (L2.putK acc p.1 p.2) kvs = _
    rw [e, ih (by simpa using h), List.append_assoc]
    rfl
theorem zipA : ∀ {ks : List (List Nat)} {l : List D} {vs : List V}, ks.length = l.length → ks.length = vs.length → (ks.map fun k => V.str (toS k)).zip vs = ((keysOf (ks.zip l)).zip vs).map fun kv => (kV kv.1, kv.2)
  | [], _, _, _, _ => by simp [keysOf]
  | k :: ks, [], _, h, _ => by cases h
  | k :: ks, _ :: _, [], _, h => by cases h
  | k :: ks, d :: l, u :: us, h1, h2 => by
    have := zipA (ks := ks) (l := l) (vs := us) (by simpa using h1) (by simpa using h2)
    simp only [List.map_cons, List.zip_cons_cons, keysOf] at this ⊢
    rw [this]
    rfl
theorem zipK : ∀ {ks : List (List Nat)} {l : List D} {vs : List V}, ks.length = l.length → ks.length = vs.length → ((keysOf (ks.zip l)).zip vs).map (·.1) = ks.map fun k => (Sum.inr (toS k) : Key)
  | [], _, _, _, _ => by simp [keysOf]
  | k :: ks, [], _, h, _ => by cases h
  | k :: ks, _ :: _, [], _, h => by cases h
  | k :: ks, d :: l, u :: us, h1, h2 => by
    have := zipK (ks := ks) (l := l) (vs := us) (by simpa using h1) (by simpa using h2)
    simp only [List.map_cons, List.zip_cons_cons, keysOf] at this ⊢
    rw [this]
theorem se_disp {ks : List (List Nat)} {es : Exs} {keys : List (Option Expr)} {vals : List Expr} {pos} (h : PPs X pos keys vals (trsD Z W G ks es)) (hall : keys.all (·.isSome) = true) (hl : keys.length = vals.length) (h0 : keys ≠ []) (h15 : keys.length ≤ 15) (hk : ks.length = exN es) :
    PE X (.Dict keys vals pos) (tE Z W G (.disp ks es)) := by
  refine (pe_disp h hall hl h0 h15).imp fun σ H Q ⟨F, ρ, v, S, he, hs, hp⟩ p hpn => ?_
  rw [ev] at hp
  have hs1 : StoR Z F ρ S (upd H p (.dK [])) := hs.made hpn
  have e0 : Ext nO F ρ H F ρ (upd H p (.dK [])) := Ext.made hpn
  have fp : F p = none := by
    cases z : F p with
    | none => rfl
    | some u => rw [hs.le p u z] at hpn; cases hpn
  have np : p ∉ ρ := fun q => by
    obtain ⟨n, hn⟩ := List.mem_iff_getElem?.mp q
    obtain ⟨u, hu⟩ := hs.out hn
    rw [hpn] at hu; cases hu
  have hp1 := PostA.ext hp e0
  refine tp_of hk ⟨F, ρ, v, S, he.ext e0, hs1, ?_⟩
  -- the run, from the heap with the new dict
  cases q : evs G es v S with
  | bad => rw [q] at hp; exact hp.elim
  | ex c fs S1 => rw [q] at hp1; exact hp1
  | ok l S1 =>
    rw [q] at hp
    simp only [R.bind] at hp
    split at hp
    · rename_i z
      obtain ⟨z1, z2, z3⟩ := z
      intro vs F1 ρ1 H1 e1 s1 r1
      have hH1 : H1 p = some (.dK []) := e1.keep p _ upd_same np (fun q => q) (fun _ z => by cases z)
      have hF1 : F1 p = none := by
        cases zz : F1 p with
        | none => rfl
        | some u =>
          rcases e1.new p u zz with w | w | w
          · rw [fp] at w; cases w
          · rw [upd_same] at w; cases w
          · exact w.elim
      have np1 : p ∉ ρ1 := by
        obtain ⟨m, rfl, hm⟩ := e1.pre
        intro w
        rcases List.mem_append.mp w with w | w
        · exact np w
        · have := hm p w; rw [upd_same] at this; cases this
      have hlen : ks.length = vs.length := by rw [z1]; exact r1.len
      refine ⟨hH1, (keysOf (ks.zip l)).zip vs, ?_, ?_, ?_⟩
      · exact zipA z1 hlen
      · unfold keysOf; simp; omega
      · have nd : (([] : List (Key × V)).map (·.1) ++ ((keysOf (ks.zip l)).zip vs).map (·.1)).Nodup := by
          rw [List.map_nil, List.nil_append, zipK z1 hlen]
          exact List.pairwise_map.mpr (z2.imp fun ne e => ne (toS_inj1 (Sum.inr.inj e)))
        rw [merge_id nd, List.nil_append]
        refine hp (.ref p) F1 (ρ1 ++ [p]) _ ?_ ?_ ?_
        · obtain ⟨m, h1, h2⟩ := e1.pre
          have dn : ∀ {b : Addr}, upd H p (.dK []) b = none → H b = none := fun {b} q => by
            by_cases y : b = p
            · subst y; exact hpn
            · rwa [upd_ne y] at q
          refine ⟨e1.le, fun b u q g1 g2 ht => ?_, fun b q => ?_, fun b u q => ?_, m ++ [p], by rw [h1, List.append_assoc], fun b hb => ?_⟩
          · rw [upd_ne (ne_of_none q hpn)]; exact e1.keep b u (by rw [upd_ne (ne_of_none q hpn)]; exact q) g1 g2 ht
          · by_cases y : b = p
            · subst y; rw [upd_same] at q; cases q
            · rw [upd_ne y] at q; exact dn (e1.dom b q)
          · rcases e1.new b u q with w | w | w
            · exact .inl w
            · exact .inr (.inl (dn w))
            · exact w.elim
          · rcases List.mem_append.mp hb with w | w
            · exact dn (h2 b w)
            · rw [List.mem_singleton.mp w]; exact hpn
        · refine ⟨fun b u q => ?_, by rw [List.length_append, List.length_append, s1.len]; rfl, ?_, fun n kv b g1 g2 => ?_, tabs_set s1.tab hH1 noTab_dK (Same.refl F1), s1.ftb⟩
          · rw [upd_ne (fun y => by subst y; rw [hF1] at q; cases q)]; exact s1.le b u q
          · exact List.nodup_append.mpr ⟨s1.nd, by simp, fun x hx y hy e => np1 (by rw [← (List.mem_singleton.mp hy), ← e]; exact hx)⟩
          · by_cases hn : n < S1.length
            · rw [List.getElem?_append_left hn] at g1
              rw [List.getElem?_append_left (by rw [s1.len]; exact hn)] at g2
              obtain ⟨k1, us, k2, k3⟩ := s1.at_ n kv b g1 g2
              refine ⟨k1, us, ?_, ?_⟩
              · rw [upd_ne (fun y => by subst y; exact np1 (List.mem_of_getElem? g2))]; exact k2
              · have := Reps.mono (m := [p]) (Same.refl F1) k3
                exact this
            · have hn' : n = S1.length := by
                have := (List.getElem?_eq_some_iff.mp g1).1
                rw [List.length_append] at this
                simp at this; omega
              subst hn'
              rw [List.getElem?_append_right (Nat.le_refl _)] at g1
              rw [List.getElem?_append_right (by rw [s1.len]; exact Nat.le_refl _), s1.len] at g2
              simp at g1 g2
              subst g1 g2
              refine ⟨hF1, vs, upd_same, ?_⟩
              have : (ks.zip l).map (·.2) = l := by rw [List.map_snd_zip]; omega
              rw [this]
              exact Reps.mono (m := [p]) (Same.refl F1) r1
        · refine .dr ?_
          rw [getN_eq, List.getElem?_append_right (by rw [s1.len]; exact Nat.le_refl _), s1.len]
          simp
    · exact hp.elim
end
end Mi

set_option Elab.async false
set_option linter.all false
set_option maxRecDepth 100000
set_option maxHeartbeats 4000000
/-! Mi, part 18c: len(set(..)) of ints. -/
namespace Mi
open PySem PySem.Spec PyProof.Rows L2
section
variable {Z : Ci} {W : WX} {G : Ga} {X : Cx}
theorem met_dedup {ns : List Int} : ∀ k, k ≤ ns.length → PyProof.Rows.firstMet (fun i => ns.getD i 0) k = dedup (ns.take k)
  | 0, _ => rfl
  | k + 1, h => by
    have hlt : k < ns.length := h
    have e1 : ns.getD k 0 = ns[k] := by
      rw [List.getD_eq_getElem?_getD, List.getElem?_eq_getElem hlt] <;> rfl
    have e2 : ns.take (k + 1) = ns.take k ++ [ns[k]] := by
      rw [List.take_add_one, List.getElem?_eq_getElem hlt] <;> rfl
    rw [PyProof.Rows.firstMet_succ, met_dedup k (Nat.le_of_lt hlt), e2]
    unfold dedup
    rw [List.foldl_append]
    show (if (List.foldl dd1 [] (ns.take k)).any (· == ns.getD k 0) then List.foldl dd1 [] (ns.take k) else List.foldl dd1 [] (ns.take k) ++ [ns.getD k 0]) = dd1 (List.foldl dd1 [] (ns.take k)) ns[k]
    rw [e1]
    rfl
theorem dedup_len : ∀ {ns acc : List Int}, (ns.foldl dd1 acc).length ≤ acc.length + ns.length
  | [], acc => by simp
  | n :: ns, acc => by
    show (ns.foldl dd1 (dd1 acc n)).length ≤ _
    have h1 := dedup_len (ns := ns) (acc := dd1 acc n)
    have h2 : (dd1 acc n).length ≤ acc.length + 1 := by unfold dd1; split <;> simp
    simp; omega
def tLenSet (ta : TE) : TE := fun σ H Q => ta σ H fun x H1 => ∃ (l : Addr) (ns : List Int), x = .ref l ∧ Rd H1 l (.lst (ns.map V.int)) ∧ ns.length ≤ 4000 ∧ Q (.int ((dedup ns).length : Nat)) H1
theorem pe_lenSet {a : Expr} {ta : TE} {p p2 q pos : Pos} (hg : Gl X "len") (hm : X.mg "len" = none) (hg2 : Gl X "set") (hm2 : X.mg "set" = none) (ha : PE X a ta) (hc : X.calm = true)
    (na : starEach [a] X.env = (false, eval a X.env) :: starEach [] X.env) : PE X (.Call (.Name "len" p) [.Call (.Name "set" p2) [a] [] q] [] pos) (tLenSet ta) := by
  refine ⟨fun pins s σ H Q I h => ?_⟩
  refine Call_ (ld_blt I hg hm boot_len ?_)
  refine PyProof.Rows.callWith_builtin1 (PyProof.Rows.args_cons ?_ rfl) rfl rfl
  refine Call_ (ld_blt I hg2 hm2 boot_set ?_)
  refine PyProof.Rows.callWith_type1 (PyProof.Rows.args_cons (thn (ha.run pins s σ H _ I h) fun v s1 ⟨x, H1, I1, r1, q1⟩ => PyProof.Rows.args_nil ?_) na) na rfl
  obtain ⟨l, ns, rfl, hq, hl, q1⟩ := q1
  cases r1
  obtain ⟨its, r, pl, hz⟩ := I1.list (.inl hq)
  have hlen : its.toArray.size = ns.length := by rw [List.size_toArray, ← r.length, List.length_map]
  refine call_set_list (I1.ok.hd hc) pl.isList (by simpa using RZ.intsAre_vals r) (by rw [hlen]; unfold scanBound; omega) fun h' tk hS hk => ?_
  refine PyProof.Rows.args_nil ?_
  rw [hlen, met_dedup ns.length (Nat.le_refl _), List.take_length] at hS
  obtain ⟨o, es, ep, t, ho, hex, hd, _, _, _, hf, hn⟩ := hS
  have I2 : Inv X pins σ H1 { s1 with heap := h', toks := tk } := I1.kept fun b o e => hk b o (Heap.lt_size e) e
  have hdl := dedup_len (ns := ns) (acc := [])
  have hdl : (dedup ns).length ≤ 4000 := by have : (dedup ns).length ≤ ([] : List Int).length + ns.length := hdl; simp at this; omega
  exact call_len_set ho hex hd hf (by rw [hn] <;> omega) ⟨.int (dedup ns).length, H1, I2.tok _, ⟨_, by rw [hn]⟩, q1⟩
theorem se_lenSet {s : Sq} {a : Expr} {p p2 q pos : Pos} (hg : Gl X "len") (hm : X.mg "len" = none) (hg2 : Gl X "set") (hm2 : X.mg "set" = none) (ha : OkQ X Z W G s a) (hc : X.calm = true) (h1 : starEach [a] X.env = [(false, eval a X.env)]) :
    PE X (.Call (.Name "len" p) [.Call (.Name "set" p2) [a] [] q] [] pos) (tE Z W G (.lenSet s)) := by
  refine (pe_lenSet hg hm hg2 hm2 ha.2.1 hc h1).imp fun σ H Q h => ?_
  refine (tG.bind (P := pL Z) (f := evl G s) (k := fun l _ S => match toInts l with | some ns => if ns.length ≤ 4000 then R.ok (D.int (dedup ns).length) S else .bad | none => .bad) (h.eq fun v S => by rw [ev] <;> rfl)).wk fun y H1 ⟨l, F1, ρ1, v1, S1, he, hs, ⟨b, vs, ex, hr, r⟩, q⟩ => ?_
  cases e : toInts l with
  | none => rw [e] at q; exact q.elim
  | some ns =>
    simp only [e] at q
    split at q
    · rename_i z
      obtain ⟨rfl, rfl⟩ := ints_reps e r
      exact ⟨b, ns, ex, hr, z, PostA.done (P := pV Z) q hs .int⟩
    · exact q.elim
end
end Mi

set_option Elab.async false
set_option linter.all false
set_option maxRecDepth 100000
set_option maxHeartbeats 4000000
/-! Mi, part 43: max, min and any of one row. -/
namespace Mi
open PySem PySem.Spec PyProof.Rows L2
section
variable {prog : Program} {w : World} {A : Around} {E : Value → Shared → Prop} {s : Shared} {l : Addr} {its : List Value} {ns : List Int} {Q : Value → Shared → Prop}
theorem iter_tupF {items : Array Value} {Q : Value → Shared → Prop} (hl : s.heap.IsTuple l items)
    (h : ∀ s2 : Shared, s2 = { s with heap := s.heap.push { cls := .type "tuple_iterator", data := .fields #[.ref l, .int 0 0] } } → (s2.heap.IsTupleIter s.heap.objs.size l 0 ∧ s2.heap.IsTuple l items) → (∀ b ∈ [s.heap.objs.size, l], b < s2.heap.objs.size) → l ≠ s.heap.objs.size → Q (.ref s.heap.objs.size) s2) :
    wpAny (model prog w) A (pyIter (.ref l)) Q E s := by
  have lt : l < s.heap.objs.size := by obtain ⟨_, e, _⟩ := hl; exact Heap.lt_size e
  have up : s.heap.objs.size < (s.heap.push { cls := .type "tuple_iterator", data := .fields #[.ref l, .int 0 0] }).objs.size := by rw [Heap.size_push]; exact Nat.lt_succ_self _
  refine wpAny_pyIter_tuple hl (h _ rfl ⟨⟨_, Heap.get?_push_size _ rfl, rfl, rfl⟩, hl.at fun o e => Heap.get?_push_of_some _ e⟩ (fun b hb => ?_) (Nat.ne_of_lt lt))
  simp only [List.mem_cons, List.not_mem_nil, or_false] at hb
  rcases hb with rfl | rfl
  · exact up
  · exact Nat.lt_trans lt up
theorem old_tup {o' : Obj} {h' : Heap} (hk : ∀ b o, b ∉ [s.heap.objs.size] → (s.heap.push o').get? b = some o → h'.get? b = some o) : ∀ b o, s.heap.get? b = some o → h'.get? b = some o := fun b o e =>
  hk b o (fun m => by simp only [List.mem_cons, List.not_mem_nil, or_false] at m; subst m; exact absurd (Heap.lt_size e) (Nat.lt_irrefl _)) (Heap.get?_push_of_some _ e)
theorem maxT_raw (hh : A.handled = none) (hl : s.heap.IsTuple l its.toArray) (hi : IntsAre its ns) (hne : 0 < ns.length)
    (h : ∀ h' tk M t', (∀ b o, s.heap.get? b = some o → h'.get? b = some o) → M ∈ ns → (∀ a, a ∈ ns → a ≤ M) → Q (.int M t') { s with heap := h', toks := tk }) : wpAny (model prog w) A (call (.builtin "max") [.ref l]) Q E s := by
  obtain ⟨xs, e⟩ := hi.allInts.items
  have hn : numsOf (intItems xs).toList = ns := by rw [← e]; exact hi.numsOf
  rw [nums_intItems] at hn
  subst hn
  rw [e] at hl
  have sz : 0 < xs.size := by simpa using hne
  refine call_max_walk (iter_tupF hl fun s2 e2 st hfp hlI => ?_)
  subst e2
  refine ⟨_, _, _, _, _, _, _, rfl, Walks.tuple (A := A.in1) hh _ l hlI (intItems xs), st, hfp, by simpa [intItems] using sz, CmpOf.ints_gt (numAt xs) (fun _ _ => intItems_at), fun v h' tk hP hk => ?_⟩
  obtain ⟨t, rfl⟩ := intItems_at (by simpa [intItems] using hP)
  obtain ⟨h1, h2⟩ := argBest_gt (numAt xs) (xs.size - 1)
  refine h h' tk _ t (old_tup hk) ?_ fun a ha => ?_
  · rw [numAt_eq]; exact PySem.getD_mem (by rw [List.length_map, Array.length_toList]; exact Nat.lt_of_le_of_lt h1 (by omega))
  · obtain ⟨j, hj, rfl⟩ := mem_getD ha
    rw [List.length_map, Array.length_toList] at hj
    rw [← numAt_eq]; exact h2 j (by omega)
theorem minT_raw (hh : A.handled = none) (hl : s.heap.IsTuple l its.toArray) (hi : IntsAre its ns) (hne : 0 < ns.length)
    (h : ∀ h' tk M t', (∀ b o, s.heap.get? b = some o → h'.get? b = some o) → M ∈ ns → (∀ a, a ∈ ns → M ≤ a) → Q (.int M t') { s with heap := h', toks := tk }) : wpAny (model prog w) A (call (.builtin "min") [.ref l]) Q E s := by
  obtain ⟨xs, e⟩ := hi.allInts.items
  have hn : numsOf (intItems xs).toList = ns := by rw [← e]; exact hi.numsOf
  rw [nums_intItems] at hn
  subst hn
  rw [e] at hl
  have sz : 0 < xs.size := by simpa using hne
  refine call_min_walk (iter_tupF hl fun s2 e2 st hfp hlI => ?_)
  subst e2
  refine ⟨_, _, _, _, _, _, _, rfl, Walks.tuple (A := A.in1) hh _ l hlI (intItems xs), st, hfp, by simpa [intItems] using sz, CmpOf.ints_lt (numAt xs) (fun _ _ => intItems_at), fun v h' tk hP hk => ?_⟩
  obtain ⟨t, rfl⟩ := intItems_at (by simpa [intItems] using hP)
  obtain ⟨h1, h2⟩ := argBest_lt (numAt xs) (xs.size - 1)
  refine h h' tk _ t (old_tup hk) ?_ fun a ha => ?_
  · rw [numAt_eq]; exact PySem.getD_mem (by rw [List.length_map, Array.length_toList]; exact Nat.lt_of_le_of_lt h1 (by omega))
  · obtain ⟨j, hj, rfl⟩ := mem_getD ha
    rw [List.length_map, Array.length_toList] at hj
    rw [← numAt_eq]; exact h2 j (by omega)
end
theorem fold_max : ∀ (l : List Int) (i : Int), (∀ y ∈ i :: l, y ≤ l.foldl (fun a b => if b > a then b else a) i) ∧ l.foldl (fun a b => if b > a then b else a) i ∈ i :: l
  | [], i => by simp
  | x :: l, i => by
    rw [List.foldl_cons]
    obtain ⟨h1, h2⟩ := fold_max l (if x > i then x else i)
    refine ⟨fun y hy => ?_, ?_⟩
    · have h0 := h1 (if x > i then x else i) (by simp)
      have hx : x ≤ (if x > i then x else i) := by split <;> omega
      have hi : i ≤ (if x > i then x else i) := by split <;> omega
      rcases List.mem_cons.mp hy with rfl | hy
      · omega
      · rcases List.mem_cons.mp hy with rfl | hy
        · omega
        · exact h1 y (by simp [hy])
    · rcases List.mem_cons.mp h2 with e | h2
      · rw [e]; split <;> simp
      · simp [h2]
theorem fold_min : ∀ (l : List Int) (i : Int), (∀ y ∈ i :: l, l.foldl (fun a b => if b < a then b else a) i ≤ y) ∧ l.foldl (fun a b => if b < a then b else a) i ∈ i :: l
  | [], i => by simp
  | x :: l, i => by
    rw [List.foldl_cons]
    obtain ⟨h1, h2⟩ := fold_min l (if x < i then x else i)
    refine ⟨fun y hy => ?_, ?_⟩
    · have h0 := h1 (if x < i then x else i) (by simp)
      have hx : (if x < i then x else i) ≤ x := by split <;> omega
      have hi : (if x < i then x else i) ≤ i := by split <;> omega
      rcases List.mem_cons.mp hy with rfl | hy
      · omega
      · rcases List.mem_cons.mp hy with rfl | hy
        · omega
        · exact h1 y (by simp [hy])
    · rcases List.mem_cons.mp h2 with e | h2
      · rw [e]; split <;> simp
      · simp [h2]
theorem toInts_reps {F : Hp} {ρ : List Addr} {Z : Ci} : ∀ {l : List D} {ns : List Int} {vs : List V}, toInts l = some ns → Reps Z F ρ l vs → vs = ns.map V.int
  | [], ns, vs, h, r => by cases h; cases r; rfl
  | d :: l, ns, vs, h, r => by
    cases d <;> simp only [toInts] at h <;> first | (cases h; done) | skip
    rename_i i
    cases e : toInts l with
    | none => rw [e] at h; cases h
    | some m =>
      rw [e] at h; cases h
      cases r with
      | cons r1 r2 =>
        cases r1
        rw [toInts_reps e r2]; rfl
section
variable {Z : Ci} {W : WX} {G : Ga} {X : Cx}
/-- one row of ints, a list or a tuple -/
def rRow (K : PySem.W.Frag) (P : Int → List Int → Prop) : List V → Hp → VK → Prop := fun vs H Q => ∃ (a : Addr) (ns : List Int), vs = [V.ref a] ∧ (Rd H a (.lst (ns.map V.int)) ∨ SqT K H a (ns.map V.int)) ∧ 0 < ns.length ∧ ∀ m, P m ns → Q (.int m) H
theorem cr_maxQ (hc : X.calm = true) : CallR X (.builtin "max") (rRow X.K fun m ns => m ∈ ns ∧ ∀ y ∈ ns, y ≤ m) := by
  intro pins s σ H vs us Q I r h
  obtain ⟨a, ns, rfl, hs, hne, q⟩ := h
  rcases hs with hs | hs
  · exact cr_max hc pins s σ H _ us Q I r ⟨a, ns, rfl, .inl hs, hne, fun m h1 h2 => q m ⟨h1, h2⟩⟩
  · obtain ⟨its, rv, hl, _⟩ := I.tuple hs
    rw [Vals.ref1 r]
    exact maxT_raw (I.ok.hd hc) hl rv.ints hne fun h' tk m t' hk h1 h2 => ⟨.int _, H, I.kept hk, ⟨_, rfl⟩, q m ⟨h1, h2⟩⟩
theorem cr_minQ (hc : X.calm = true) : CallR X (.builtin "min") (rRow X.K fun m ns => m ∈ ns ∧ ∀ y ∈ ns, m ≤ y) := by
  intro pins s σ H vs us Q I r h
  obtain ⟨a, ns, rfl, hs, hne, q⟩ := h
  rcases hs with hs | hs
  · exact cr_min hc pins s σ H _ us Q I r ⟨a, ns, rfl, .inl hs, hne, fun m h1 h2 => q m ⟨h1, h2⟩⟩
  · obtain ⟨its, rv, hl, _⟩ := I.tuple hs
    rw [Vals.ref1 r]
    exact minT_raw (I.ok.hd hc) hl rv.ints hne fun h' tk m t' hk h1 h2 => ⟨.int _, H, I.kept hk, ⟨_, rfl⟩, q m ⟨h1, h2⟩⟩
theorem se_maxL {s : Sq} {a : Expr} {p pos} (hc : X.calm = true) (hK : X.K = Z.K) (hg : Gl X "max") (hm : X.mg "max" = none) (ha : OkQ X Z W G s a) (h1 : starEach [a] X.env = [(false, eval a X.env)]) : PE X (.Call (.Name "max" p) [a] [] pos) (tE Z W G (.maxL s)) := by
  refine (pe_callB (cr_maxQ hc) hg hm (by decide +kernel) (pa_one ha.1 h1) (he := by rw [h1]; rfl)).imp fun σ H Q h => ?_
  refine (tG.bind (P := pQ Z) (k := fun l _ S => match toInts l with | some (i :: ns) => R.ok (D.int (ns.foldl (fun a b => if b > a then b else a) i)) S | _ => .bad) (h.eq fun v S => by rw [ev] <;> rfl)).wk fun x H1 ⟨l, F1, ρ1, v1, S1, he, hs, ⟨c, vs, ex, hq, r⟩, q⟩ => ?_
  subst ex
  cases e : toInts l with
  | none => rw [e] at q; exact q.elim
  | some ns =>
    rw [e] at q
    cases ns with
    | nil => exact q.elim
    | cons i ns =>
      have ev := toInts_reps e r
      subst ev
      refine ⟨c, i :: ns, rfl, hq.imp id (fun z => by rw [hK]; exact seqT hs.le z), by simp, fun m hm => ?_⟩
      obtain ⟨f1, f2⟩ := fold_max ns i
      have : m = ns.foldl (fun a b => if b > a then b else a) i := Int.le_antisymm (f1 m hm.1) (hm.2 _ f2)
      rw [this]
      exact PostA.done (P := pV Z) q hs .int
theorem se_minL {s : Sq} {a : Expr} {p pos} (hc : X.calm = true) (hK : X.K = Z.K) (hg : Gl X "min") (hm : X.mg "min" = none) (ha : OkQ X Z W G s a) (h1 : starEach [a] X.env = [(false, eval a X.env)]) : PE X (.Call (.Name "min" p) [a] [] pos) (tE Z W G (.minL s)) := by
  refine (pe_callB (cr_minQ hc) hg hm (by decide +kernel) (pa_one ha.1 h1) (he := by rw [h1]; rfl)).imp fun σ H Q h => ?_
  refine (tG.bind (P := pQ Z) (k := fun l _ S => match toInts l with | some (i :: ns) => R.ok (D.int (ns.foldl (fun a b => if b < a then b else a) i)) S | _ => .bad) (h.eq fun v S => by rw [ev] <;> rfl)).wk fun x H1 ⟨l, F1, ρ1, v1, S1, he, hs, ⟨c, vs, ex, hq, r⟩, q⟩ => ?_
  subst ex
  cases e : toInts l with
  | none => rw [e] at q; exact q.elim
  | some ns =>
    rw [e] at q
    cases ns with
    | nil => exact q.elim
    | cons i ns =>
      have ev := toInts_reps e r
      subst ev
      refine ⟨c, i :: ns, rfl, hq.imp id (fun z => by rw [hK]; exact seqT hs.le z), by simp, fun m hm => ?_⟩
      obtain ⟨f1, f2⟩ := fold_min ns i
      have : m = ns.foldl (fun a b => if b < a then b else a) i := Int.le_antisymm (hm.2 _ f2) (f1 m hm.1)
      rw [this]
      exact PostA.done (P := pV Z) q hs .int
theorem anyB_reps : ∀ {l : List D} {b : Bool} {vs : List V} {F : Hp} {ρ : List Addr}, anyB l = some b → Reps Z F ρ l vs → ∃ bs : List Bool, vs = bs.map V.bl ∧ b = bs.any id
  | [], b, vs, F, ρ, h, r => by cases h; cases r; exact ⟨[], rfl, rfl⟩
  | d :: l, b, vs, F, ρ, h, r => by
    cases d <;> simp only [anyB] at h <;> first | (cases h; done) | skip
    rename_i c
    cases e : anyB l with
    | none => rw [e] at h; cases h
    | some m =>
      rw [e] at h; cases h
      cases r with
      | cons r1 r2 =>
        obtain ⟨bs, e1, e2⟩ := anyB_reps e r2
        cases r1
        exact ⟨c :: bs, by rw [e1]; rfl, by rw [e2]; rfl⟩
theorem se_anyL {s : Sq} {a : Expr} {p pos} (hg : Gl X "any") (hm : X.mg "any" = none) (ha : OkQ X Z W G s a) (hc : X.calm = true) (h1 : starEach [a] X.env = [(false, eval a X.env)]) : PE X (.Call (.Name "any" p) [a] [] pos) (tE Z W G (.anyL s)) := by
  refine (pe_callB (cr_any hc) hg hm (by decide +kernel) (pa_one ha.2.1 h1) (he := by rw [h1]; rfl)).imp fun σ H Q h => ?_
  refine (tG.bind (P := pL Z) (k := fun l _ S => match anyB l with | some b => R.ok (D.bl b) S | none => .bad) (h.eq fun v S => by rw [ev] <;> rfl)).wk fun x H1 ⟨l, F1, ρ1, v1, S1, he, hs, ⟨c, vs, ex, hq, r⟩, q⟩ => ?_
  subst ex
  cases e : anyB l with
  | none => rw [e] at q; exact q.elim
  | some b =>
    rw [e] at q
    obtain ⟨bs, rfl, rfl⟩ := anyB_reps e r
    exact ⟨c, bs, rfl, .inl hq, PostA.done (P := pV Z) q hs .bl⟩
end
end Mi

set_option Elab.async false
set_option linter.all false
set_option maxRecDepth 100000
set_option maxHeartbeats 4000000
/-! Mi, part 18d: zip over lists and tuples (after HandS.Zip0, HandS.Zip: each operand of either kind). -/
namespace Mi
open PySem PySem.Spec PyProof.Rows L2
open PySem.Sem (wp)
/-- an iterator over a tuple (true), a list (false) -/
def Ik (b : Bool) (h : Heap) (it l : Addr) (k : Nat) : Prop := match b with
  | true => h.IsTupleIter it l k
  | false => h.IsListIter it l k
def Sk (b : Bool) (h : Heap) (l : Addr) (xs : Array Value) : Prop := match b with
  | true => h.IsTuple l xs
  | false => h.IsList l xs
def itO (b : Bool) (l : Addr) : Obj := match b with
  | true => { cls := .type "tuple_iterator", data := .fields #[.ref l, .int 0 0] }
  | false => { cls := .type "list_iterator", data := .fields #[.ref l, .int 0 0] }
theorem Ik.ext {p : Bool} {h h' : Heap} {a b l : Addr} {k : Nat} (x : Ik p h a l k) (hs : Heap.ExtBut b h h') (ne : a ≠ b) : Ik p h' a l k := by
  cases p
  · exact Heap.IsListIter.extBut x hs ne
  · exact Heap.IsTupleIter.extBut x hs ne
theorem Ik.at1 {p : Bool} {h h' : Heap} {a l : Addr} {k : Nat} (x : Ik p h a l k) (e : ∀ o, h.get? a = some o → h'.get? a = some o) : Ik p h' a l k := by
  cases p
  · exact Heap.IsListIter.at x e
  · exact Heap.IsTupleIter.at x e
theorem Ik.obj {p : Bool} {h : Heap} {a l : Addr} {k : Nat} (x : Ik p h a l k) : ∃ o, h.get? a = some o ∧ ∀ v, o.data ≠ .cell v := by
  cases p
  · obtain ⟨o, e, c, d⟩ := x; exact ⟨o, e, fun v z => by rw [d] at z; cases z⟩
  · obtain ⟨o, e, c, d⟩ := x; exact ⟨o, e, fun v z => by rw [d] at z; cases z⟩
theorem Sk.ext {p : Bool} {h h' : Heap} {a b : Addr} {xs : Array Value} (x : Sk p h a xs) (hs : Heap.ExtBut b h h') (ne : a ≠ b) : Sk p h' a xs := by
  cases p
  · exact Heap.IsList.extBut x hs ne
  · exact Heap.IsTuple.extBut x hs ne
theorem Sk.push {p : Bool} {h : Heap} {a : Addr} {xs : Array Value} (x : Sk p h a xs) (o : Obj) : Sk p (h.push o) a xs := by
  cases p
  · exact Heap.IsList.push x o
  · exact Heap.IsTuple.push x o
theorem itO_free (p : Bool) (l : Addr) : (itO p l).isFreed = false := by cases p <;> rfl
theorem ik_new {p : Bool} {h : Heap} {a l : Addr} (e : h.get? a = some (itO p l)) : Ik p h a l 0 := by
  cases p
  · exact ⟨_, e, rfl, rfl⟩
  · exact ⟨_, e, rfl, rfl⟩
section
variable {prog : Program} {w : World} {A : Around} {E : Value → Shared → Prop} {s : Shared}
theorem nk_item {p : Bool} {it l : Addr} {i : Nat} {items} {x : Value} {Q : Value → Shared → Prop} (hit : Ik p s.heap it l i) (hl : Sk p s.heap l items) (hx : items[i]? = some x)
    (k : ∀ h', Ik p h' it l (i + 1) → Heap.SameBut it s.heap h' → Q x { s with heap := h' }) : wpAny (model prog w) A (Builtin.SmallTypes.nextOf (.ref it)) Q E s := by
  cases p
  · exact wpAny_nextOf_list_item hit hl hx k
  · exact RZ.nextOf_tuple_item hit hl hx k
theorem nk_end {p : Bool} {it l : Addr} {i : Nat} {items} {Q : Value → Shared → Prop} (hh : A.handled = none) (hit : Ik p s.heap it l i) (hl : Sk p s.heap l items) (hx : items[i]? = none)
    (k : ∀ h' e, Heap.ExtBut it s.heap h' → (∃ o, h'.get? e = some o ∧ o.cls = .type "StopIteration") → E (.ref e) { s with heap := h' }) : wpAny (model prog w) A (Builtin.SmallTypes.nextOf (.ref it)) Q E s := by
  cases p
  · exact wpAny_nextOf_list_end hh hit hl hx k
  · exact RZ.nextOf_tuple_end hh hit hl hx k
theorem pk_iter {p : Bool} {l : Addr} {items} {Q : Value → Shared → Prop} (hl : Sk p s.heap l items) (k : Q (.ref s.heap.objs.size) { s with heap := s.heap.push (itO p l) }) : wpAny (model prog w) A (pyIter (.ref l)) Q E s := by
  cases p
  · exact wpAny_pyIter_list hl k
  · exact wpAny_pyIter_tuple hl k
theorem zk_next_item {p q : Bool} {z TI TO i1 i2 l1 l2 : Addr} {k1 k2 : Nat} {xs ys : Array Value} {x y a b : Value} {Q : Value → Shared → Prop} (ap : ZipApart z TI TO i1 i2 l1 l2)
    (kz : IsZip s.heap z TI TO .none) (kI : IsPair s.heap TI (.ref i1) (.ref i2)) (kO : IsPair s.heap TO a b)
    (h1 : Ik p s.heap i1 l1 k1) (h2 : Ik q s.heap i2 l2 k2) (hl1 : Sk p s.heap l1 xs) (hl2 : Sk q s.heap l2 ys) (hx : xs[k1]? = some x) (hy : ys[k2]? = some y)
    (kQ : ∀ h', IsZip h' z TI TO (rawInt s.heap.objs.size) → IsPair h' TO x y → Ik p h' i1 l1 (k1 + 1) → Ik q h' i2 l2 (k2 + 1) → IsPair h' s.heap.objs.size x y → h'.objs.size = s.heap.objs.size + 1 →
      (∀ c o, c ≠ z → c ≠ TO → c ≠ i1 → c ≠ i2 → s.heap.get? c = some o → h'.get? c = some o) → Q (.ref s.heap.objs.size) { s with heap := h' }) :
    wpAny (model prog w) A (Builtin.«zip.__next__» ⟨[.ref z], []⟩) (fun fin s' => ∃ v, fin = .done (.ret v) ∧ Q v s') E s := by
  show wpAny _ _ (field (.ref z) 2 >>= _) _ _ _
  refine wpAny_bind (wpAny_field kz rfl (x := .bool false) rfl ?_)
  show wpAny _ _ (field (.ref z) 3 >>= _) _ _ _
  refine wpAny_bind (wpAny_field kz rfl (x := .ref TI) rfl ?_)
  refine wpAny_bind (wpAny_seqItems kI rfl ?_)
  show wpAny _ _ (Builtin.SmallTypes.ownedTupleIsFree (.ref z) >>= _) _ _ _
  refine wpAny_bind ?_
  unfold Builtin.SmallTypes.ownedTupleIsFree
  refine wpAny_bind (wpAny_field kz rfl (x := .none) rfl (wpAny_pure ?_))
  simp only [if_true]
  refine wpAny_bind (wpAny_rule ?_)
  refine wpAny_bind (wpAny_field kz rfl (x := .ref TO) rfl ?_)
  refine wpAny_bind (wpAny_setField_rec kz (by simp) fun h₁ kz₁ e₁ => ?_)
  replace kz₁ : IsZip h₁ z TI TO .ellipsis := kz₁
  refine wpAny_bind ?_
  simp only [List.zipIdx_cons, List.zipIdx_nil, List.forIn_cons, List.forIn_nil]

  refine wpAny_bind (wpAny_bind (wpAny_onRaise ?_))
  show wpAny _ _ (Builtin.SmallTypes.nextOf (.ref i1) >>= _) _ _ _
  refine wpAny_bind (nk_item (h1.ext e₁.extBut ap.i1z) (hl1.ext e₁.extBut ap.l1z) hx fun h₂ h1₂ e₂ => wpAny_pure ?_)
  have kO₂ : IsPair h₂ TO a b := e₂.extBut _ _ ap.TOi1 (e₁.extBut _ _ ap.TOz kO)
  refine wpAny_bind (wpAny_seqItems kO₂ rfl ?_)
  refine wpAny_bind (wpAny_updateSeq_pair kO₂ fun h₃ kO₃ e₃ => ?_)
  replace kO₃ : IsPair h₃ TO x b := kO₃
  refine wpAny_bind (wpAny_letGo (wpAny_pure ?_))

  refine wpAny_bind (wpAny_bind (wpAny_onRaise ?_))
  show wpAny _ _ (Builtin.SmallTypes.nextOf (.ref i2) >>= _) _ _ _
  refine wpAny_bind (nk_item (((h2.ext e₁.extBut ap.i2z).ext e₂.extBut ap.i12.symm).ext e₃.extBut ap.TOi2.symm)
    (((hl2.ext e₁.extBut ap.l2z).ext e₂.extBut ap.l2i1).ext e₃.extBut ap.l2TO) hy fun h₄ h2₄ e₄ => wpAny_pure ?_)
  have kO₄ : IsPair h₄ TO x b := e₄.extBut _ _ ap.TOi2 kO₃
  refine wpAny_bind (wpAny_seqItems kO₄ rfl ?_)
  refine wpAny_bind (wpAny_updateSeq_pair kO₄ fun h₅ kO₅ e₅ => ?_)
  replace kO₅ : IsPair h₅ TO x y := kO₅
  refine wpAny_bind (wpAny_letGo (wpAny_pure (wpAny_pure ?_)))

  refine wpAny_bind (wpAny_seqItems kO₅ rfl ?_)
  refine wpAny_bind (wpAny_newTuple ?_)
  have hsz : h₅.objs.size = s.heap.objs.size := by rw [e₅.1, e₄.1, e₃.1, e₂.1, e₁.1]
  have kz₅ : IsZip h₅ z TI TO .ellipsis := e₅.extBut _ _ ap.TOz.symm (e₄.extBut _ _ ap.i2z.symm (e₃.extBut _ _ ap.TOz.symm (e₂.extBut _ _ ap.i1z.symm kz₁)))
  have hk₅ : ∀ c o, c ≠ z → c ≠ TO → c ≠ i1 → c ≠ i2 → s.heap.get? c = some o → h₅.get? c = some o := fun c o c1 c2 c3 c4 e =>
    e₅.extBut _ _ c2 (e₄.extBut _ _ c4 (e₃.extBut _ _ c2 (e₂.extBut _ _ c3 (e₁.extBut _ _ c1 e))))
  have h1₅ : Ik p h₅ i1 l1 (k1 + 1) := ((h1₂.ext e₃.extBut ap.TOi1.symm).ext e₄.extBut ap.i12).ext e₅.extBut ap.TOi1.symm
  have h2₅ : Ik q h₅ i2 l2 (k2 + 1) := h2₄.ext e₅.extBut ap.TOi2.symm
  have kzlt : z < h₅.objs.size := Heap.lt_size kz₅
  have kOlt : TO < h₅.objs.size := Heap.lt_size kO₅
  have hi1lt : i1 < h₅.objs.size := by obtain ⟨_, e, _⟩ := h1₅.obj; exact Heap.lt_size e
  have hi2lt : i2 < h₅.objs.size := by obtain ⟨_, e, _⟩ := h2₅.obj; exact Heap.lt_size e
  show wpAny _ _ (Builtin.SmallTypes.ownedTupleHandOut (.ref z) (.ref h₅.objs.size) >>= _) _ _ _
  refine wpAny_bind ?_
  unfold Builtin.SmallTypes.ownedTupleHandOut
  have kz₆ : IsZip (h₅.push { cls := .type "tuple", data := .seq #[x, y] }) z TI TO .ellipsis := Heap.get?_push_of_some _ kz₅
  refine wpAny_bind (wpAny_setField_rec kz₆ (by simp) fun h₇ kz₇ e₇ => ?_)
  replace kz₇ : IsZip h₇ z TI TO (rawInt h₅.objs.size) := kz₇
  refine wpAny_setField_rec kz₇ (by simp) fun h₈ kz₈ e₈ => ?_
  replace kz₈ : IsZip h₈ z TI TO (rawInt h₅.objs.size) := kz₈
  have up : ∀ c o, c ≠ z → h₅.get? c = some o → h₈.get? c = some o := fun c o c1 e => e₈.extBut _ _ c1 (e₇.extBut _ _ c1 (Heap.get?_push_of_some _ e))
  have hT₈ : IsPair h₈ h₅.objs.size x y := e₈.extBut _ _ (Nat.ne_of_gt kzlt) (e₇.extBut _ _ (Nat.ne_of_gt kzlt) (Heap.get?_push_size _ rfl))
  have kz8 : h₈.objs.size = h₅.objs.size + 1 := by rw [e₈.1, e₇.1, Heap.size_push]
  rw [hsz] at kz₈ hT₈ kz8
  refine wpAny_pure ⟨_, rfl, ?_⟩
  show Q (.ref h₅.objs.size) _
  rw [hsz]
  exact kQ h₈ kz₈ (up _ _ ap.TOz kO₅) (h1₅.at1 fun o e => up _ o ap.i1z e) (h2₅.at1 fun o e => up _ o ap.i2z e) hT₈ kz8 fun c o c1 c2 c3 c4 e => up c o c1 (hk₅ c o c1 c2 c3 c4 e)

theorem zk_next_end {p q : Bool} {z TI TO i1 i2 l1 l2 : Addr} {k1 k2 : Nat} {xs ys : Array Value} {a b : Value} {Q : Fin → Shared → Prop} (hh : A.handled = none) (ap : ZipApart z TI TO i1 i2 l1 l2)
    (kz : IsZip s.heap z TI TO .none) (kI : IsPair s.heap TI (.ref i1) (.ref i2)) (kO : IsPair s.heap TO a b)
    (h1 : Ik p s.heap i1 l1 k1) (h2 : Ik q s.heap i2 l2 k2) (hl1 : Sk p s.heap l1 xs) (hl2 : Sk q s.heap l2 ys) (hend : xs[k1]? = none ∨ ys[k2]? = none)
    (kE : ∀ h' e, (∀ c o, c ≠ z → c ≠ TO → c ≠ i1 → c ≠ i2 → s.heap.get? c = some o → h'.get? c = some o) → (∃ o, h'.get? e = some o ∧ o.cls = .type "StopIteration") → E (.ref e) { s with heap := h' }) :
    wpAny (model prog w) A (Builtin.«zip.__next__» ⟨[.ref z], []⟩) Q E s := by
  show wpAny _ _ (field (.ref z) 2 >>= _) _ _ _
  refine wpAny_bind (wpAny_field kz rfl (x := .bool false) rfl ?_)
  show wpAny _ _ (field (.ref z) 3 >>= _) _ _ _
  refine wpAny_bind (wpAny_field kz rfl (x := .ref TI) rfl ?_)
  refine wpAny_bind (wpAny_seqItems kI rfl ?_)
  show wpAny _ _ (Builtin.SmallTypes.ownedTupleIsFree (.ref z) >>= _) _ _ _
  refine wpAny_bind ?_
  unfold Builtin.SmallTypes.ownedTupleIsFree
  refine wpAny_bind (wpAny_field kz rfl (x := .none) rfl (wpAny_pure ?_))
  simp only [if_true]
  refine wpAny_bind (wpAny_rule ?_)
  refine wpAny_bind (wpAny_field kz rfl (x := .ref TO) rfl ?_)
  refine wpAny_bind (wpAny_setField_rec kz (by simp) fun h₁ kz₁ e₁ => ?_)
  replace kz₁ : IsZip h₁ z TI TO .ellipsis := kz₁
  refine wpAny_bind ?_
  simp only [List.zipIdx_cons, List.zipIdx_nil, List.forIn_cons, List.forIn_nil]
  refine wpAny_bind (wpAny_bind (wpAny_onRaise ?_))
  show wpAny _ _ (Builtin.SmallTypes.nextOf (.ref i1) >>= _) _ _ _
  cases hx : xs[k1]? with
  | none =>
    refine wpAny_bind (nk_end hh (h1.ext e₁.extBut ap.i1z) (hl1.ext e₁.extBut ap.l1z) hx fun h₂ e e₂ he => ?_)
    obtain ⟨oe, ho, hcl⟩ := he
    have kz₂ : IsZip h₂ z TI TO .ellipsis := e₂ _ _ ap.i1z.symm kz₁
    have nez : e ≠ z := fun x => by subst x; rw [kz₂] at ho; cases ho; simp at hcl
    refine wpAny_setField_rec kz₂ (by simp) fun h₃ _ e₃ => kE h₃ e (fun c o c1 _ c3 _ x => e₃.extBut _ _ c1 (e₂ _ _ c3 (e₁.extBut _ _ c1 x))) ⟨oe, e₃.extBut _ _ nez ho, hcl⟩
  | some x =>
    have hy : ys[k2]? = none := by rcases hend with h | h; rw [hx] at h; cases h; exact h
    refine wpAny_bind (nk_item (h1.ext e₁.extBut ap.i1z) (hl1.ext e₁.extBut ap.l1z) hx fun h₂ h1₂ e₂ => wpAny_pure ?_)
    have kO₂ : IsPair h₂ TO a b := e₂.extBut _ _ ap.TOi1 (e₁.extBut _ _ ap.TOz kO)
    refine wpAny_bind (wpAny_seqItems kO₂ rfl ?_)
    refine wpAny_bind (wpAny_updateSeq_pair kO₂ fun h₃ kO₃ e₃ => ?_)
    refine wpAny_bind (wpAny_letGo (wpAny_pure ?_))
    refine wpAny_bind (wpAny_bind (wpAny_onRaise ?_))
    show wpAny _ _ (Builtin.SmallTypes.nextOf (.ref i2) >>= _) _ _ _
    refine wpAny_bind (nk_end hh (((h2.ext e₁.extBut ap.i2z).ext e₂.extBut ap.i12.symm).ext e₃.extBut ap.TOi2.symm)
      (((hl2.ext e₁.extBut ap.l2z).ext e₂.extBut ap.l2i1).ext e₃.extBut ap.l2TO) hy fun h₄ e e₄ he => ?_)
    obtain ⟨oe, ho, hcl⟩ := he
    have kz₄ : IsZip h₄ z TI TO .ellipsis := e₄ _ _ ap.i2z.symm (e₃.extBut _ _ ap.TOz.symm (e₂.extBut _ _ ap.i1z.symm kz₁))
    have nez : e ≠ z := fun x => by subst x; rw [kz₄] at ho; cases ho; simp at hcl
    refine wpAny_setField_rec kz₄ (by simp) fun h₅ _ e₅ => kE h₅ e (fun c o c1 c2 c3 c4 x => e₅.extBut _ _ c1 (e₄ _ _ c4 (e₃.extBut _ _ c2 (e₂.extBut _ _ c3 (e₁.extBut _ _ c1 x))))) ⟨oe, e₅.extBut _ _ nez ho, hcl⟩

theorem pyNext_zk_item {p q : Bool} {z TI TO i1 i2 l1 l2 : Addr} {k1 k2 : Nat} {xs ys : Array Value} {x y a b : Value} {Q : Option Value → Shared → Prop} (ap : ZipApart z TI TO i1 i2 l1 l2)
    (kz : IsZip s.heap z TI TO .none) (kI : IsPair s.heap TI (.ref i1) (.ref i2)) (kO : IsPair s.heap TO a b)
    (h1 : Ik p s.heap i1 l1 k1) (h2 : Ik q s.heap i2 l2 k2) (hl1 : Sk p s.heap l1 xs) (hl2 : Sk q s.heap l2 ys) (hx : xs[k1]? = some x) (hy : ys[k2]? = some y)
    (kQ : ∀ h', IsZip h' z TI TO (rawInt s.heap.objs.size) → IsPair h' TO x y → Ik p h' i1 l1 (k1 + 1) → Ik q h' i2 l2 (k2 + 1) → IsPair h' s.heap.objs.size x y → h'.objs.size = s.heap.objs.size + 1 →
      (∀ c o, c ≠ z → c ≠ TO → c ≠ i1 → c ≠ i2 → s.heap.get? c = some o → h'.get? c = some o) → Q (some (.ref s.heap.objs.size)) { s with heap := h' }) :
    wpAny (model prog w) A (pyNext (.ref z)) Q E s := by
  have hT : s.TypeIs (.ref z) "zip" := ⟨_, kz, rfl⟩
  unfold pyNext
  exact wpAny_bind (wpAny_attempt (wpAny_callSpecial?_slot (name := Str.ofString "__next__") hT F.slot_zip_next
    (wpAny_call_entry F.slot_zip_next hT F.entry_zip_next
      (zk_next_item ap kz kI kO h1 h2 hl1 hl2 hx hy fun h' a1 a2 a3 a4 a5 a6 a7 => wpAny_pure (kQ h' a1 a2 a3 a4 a5 a6 a7)) (F.args_zip_next_1 _))))

theorem pyNext_zk_end {p q : Bool} {z TI TO i1 i2 l1 l2 : Addr} {k1 k2 : Nat} {xs ys : Array Value} {a b : Value} {Q : Option Value → Shared → Prop} (hh : A.handled = none) (ap : ZipApart z TI TO i1 i2 l1 l2)
    (kz : IsZip s.heap z TI TO .none) (kI : IsPair s.heap TI (.ref i1) (.ref i2)) (kO : IsPair s.heap TO a b)
    (h1 : Ik p s.heap i1 l1 k1) (h2 : Ik q s.heap i2 l2 k2) (hl1 : Sk p s.heap l1 xs) (hl2 : Sk q s.heap l2 ys) (hend : xs[k1]? = none ∨ ys[k2]? = none)
    (kQ : ∀ h', (∀ c o, c ≠ z → c ≠ TO → c ≠ i1 → c ≠ i2 → s.heap.get? c = some o → h'.get? c = some o) → Q none { s with heap := h' }) : wpAny (model prog w) A (pyNext (.ref z)) Q E s := by
  have hT : s.TypeIs (.ref z) "zip" := ⟨_, kz, rfl⟩
  unfold pyNext
  refine wpAny_bind (wpAny_attempt (wpAny_callSpecial?_slot (name := Str.ofString "__next__") hT F.slot_zip_next
    (wpAny_call_entry F.slot_zip_next hT F.entry_zip_next (zk_next_end hh ap kz kI kO h1 h2 hl1 hl2 hend fun h' e hk he => ?_) (F.args_zip_next_1 _))))
  obtain ⟨o, ho, hc⟩ := he
  refine wpAny_bind (wpAny_isInstance (T := "StopIteration") (b := true) ⟨o, ho, hc⟩ isSubtype_stop ?_)
  exact wpAny_pure (kQ _ hk)
end

abbrev zkH1 (p q : Bool) (h : Heap) (l1 : Addr) : Heap := h.push (itO p l1)
abbrev zkH2 (p q : Bool) (h : Heap) (l1 l2 : Addr) : Heap := (zkH1 p q h l1).push (itO q l2)
abbrev zkH3 (p q : Bool) (h : Heap) (l1 l2 : Addr) : Heap := (zkH2 p q h l1 l2).push { cls := .type "tuple", data := .seq #[.ref h.objs.size, .ref (zkH1 p q h l1).objs.size] }
abbrev zkH4 (p q : Bool) (h : Heap) (l1 l2 : Addr) : Heap := (zkH3 p q h l1 l2).push { cls := .type "tuple", data := .seq #[.none, .none] }
abbrev zkH5 (p q : Bool) (h : Heap) (l1 l2 : Addr) : Heap := (zkH4 p q h l1 l2).push { cls := .type "zip", data := .fields #[.none, .bool false, .bool false, .ref (zkH2 p q h l1 l2).objs.size, .ref (zkH3 p q h l1 l2).objs.size] }

theorem meets_zk_new (p q : Bool) (l1 l2 : Addr) (xs ys : Array Value) :
    Meets (Builtin.«zip.__new__» ⟨[.type "zip", .ref l1, .ref l2], []⟩) (fun _ R s => Sk p s.heap l1 xs ∧ Sk q s.heap l2 ys ∧
      R (.ok (.ret (.ref (zkH4 p q s.heap l1 l2).objs.size))) { s with heap := zkH5 p q s.heap l1 l2 }) :=
  .of_wp fun prog w A R s h => by
    obtain ⟨hp, g, d, tk, os⟩ := s; obtain ⟨hl1, hl2, h⟩ := h
    have hsub := sub_zip
    have hL1 : Sk p (Shared.heap ⟨hp, g, d, tk, os⟩) l1 xs := hl1
    have hL2 : Sk q (Shared.heap ⟨hp.push (itO p l1), g, d, tk, os⟩) l2 ys := Sk.push hl2 _
    wp_walk using pk_iter hL1, pk_iter hL2
    exact ⟨_, rfl, h⟩

section
variable {prog : Program} {w : World} {A : Around} {E : Value → Shared → Prop} {s : Shared}

theorem call_zk {p q : Bool} {l1 l2 : Addr} {xs ys : Array Value} {Q : Value → Shared → Prop} (hl1 : Sk p s.heap l1 xs) (hl2 : Sk q s.heap l2 ys)
    (h : ∀ h', IsZip h' (s.heap.objs.size + 4) (s.heap.objs.size + 2) (s.heap.objs.size + 3) .none → IsPair h' (s.heap.objs.size + 2) (.ref s.heap.objs.size) (.ref (s.heap.objs.size + 1)) →
      IsPair h' (s.heap.objs.size + 3) .none .none → Ik p h' s.heap.objs.size l1 0 → Ik q h' (s.heap.objs.size + 1) l2 0 → h'.objs.size = s.heap.objs.size + 5 →
      (∀ c o, s.heap.get? c = some o → h'.get? c = some o) → Q (.ref (s.heap.objs.size + 4)) { s with heap := h' }) :
    wpAny (model prog w) A (call (.type "zip") [.ref l1, .ref l2]) Q E s := by
  refine callType_new F.called_zip (by decide) (F.typeCall_zip_2 _ _) (F.newCall_zip_2 _ _) (fun obj => F.args_object_init_3 obj _ _) F.entry_zip_new
    (meets_zk_new p q l1 l2 xs ys) ⟨hl1, hl2, ?_⟩
  have z1 : (zkH1 p q s.heap l1).objs.size = s.heap.objs.size + 1 := Heap.size_push ..
  have z2 : (zkH2 p q s.heap l1 l2).objs.size = s.heap.objs.size + 2 := by rw [Heap.size_push, z1]
  have z3 : (zkH3 p q s.heap l1 l2).objs.size = s.heap.objs.size + 3 := by rw [Heap.size_push, z2]
  have z4 : (zkH4 p q s.heap l1 l2).objs.size = s.heap.objs.size + 4 := by rw [Heap.size_push, z3]
  have z5 : (zkH5 p q s.heap l1 l2).objs.size = s.heap.objs.size + 5 := by rw [Heap.size_push, z4]
  have g5 : (zkH5 p q s.heap l1 l2).get? (zkH4 p q s.heap l1 l2).objs.size = some _ := Heap.get?_push_size _ rfl
  have g4 : (zkH5 p q s.heap l1 l2).get? (zkH3 p q s.heap l1 l2).objs.size = some _ := Heap.get?_push_of_some _ (Heap.get?_push_size _ rfl)
  have g3 : (zkH5 p q s.heap l1 l2).get? (zkH2 p q s.heap l1 l2).objs.size = some _ := Heap.get?_push_of_some _ (Heap.get?_push_of_some _ (Heap.get?_push_size _ rfl))
  have g2 : (zkH5 p q s.heap l1 l2).get? (zkH1 p q s.heap l1).objs.size = some _ := Heap.get?_push_of_some _ (Heap.get?_push_of_some _ (Heap.get?_push_of_some _ (Heap.get?_push_size _ (itO_free q l2))))
  have g1 : (zkH5 p q s.heap l1 l2).get? s.heap.objs.size = some _ := Heap.get?_push_of_some _ (Heap.get?_push_of_some _ (Heap.get?_push_of_some _ (Heap.get?_push_of_some _ (Heap.get?_push_size _ (itO_free p l1)))))
  show _ ∧ _
  rw [z2, z3, z4] at g5
  rw [z1, z2] at g3
  rw [z3] at g4
  rw [z1] at g2
  rw [z4]
  exact ⟨⟨_, g5, rfl⟩, h _ g5 g3 g4 (ik_new g1) (ik_new g2) z5 fun c o x =>
    Heap.get?_push_of_some _ (Heap.get?_push_of_some _ (Heap.get?_push_of_some _ (Heap.get?_push_of_some _ (Heap.get?_push_of_some _ x))))⟩
end

/-- a list, a tuple that is known -/
def SqK (p : Bool) (K : PySem.W.Frag) (H : Hp) (a : Addr) (xs : List V) : Prop := match p with
  | true => SqT K H a xs
  | false => SqL K H a xs
theorem sqk {X : Cx} {pins : List (Addr × Obj)} {σ : L2.St} {H : Hp} {s : Shared} {p : Bool} {a : Addr} {xs : List V} (I : Inv X pins σ H s) (h : SqK p X.K H a xs) : ∃ its : List Value, Vals xs its ∧ Sk p s.heap a its.toArray ∧ xs.length ≤ sizeLine := by
  cases p
  · obtain ⟨its, rv, pl, z⟩ := I.list h; exact ⟨its, rv, pl.isList, z⟩
  · obtain ⟨its, rv, pl, z⟩ := I.tuple h; exact ⟨its, rv, pl, z⟩
theorem sqk_inj {X : Cx} {pins : List (Addr × Obj)} {σ : L2.St} {H : Hp} {s : Shared} {p : Bool} {a : Addr} {xs ys : List V} (I : Inv X pins σ H s) (h : SqK p X.K H a xs) (h' : SqK p X.K H a ys) : xs = ys := by
  cases p
  · exact I.list_inj h h'
  · exact I.tuple_inj h h'
def Itk2 (p q : Bool) (K : PySem.W.Frag) (a b : Addr) : It :=
  ⟨fun i H => ∃ (xs ys : List V) (x y : V), SqK p K H a xs ∧ SqK q K H b ys ∧ xs[i]? = some x ∧ ys[i]? = some y,
    fun i H v H' => ∃ T x y, v = .ref T ∧ H T = none ∧ H' = upd H T (.tup [x, y]) ∧ (∀ xs, SqK p K H a xs → xs[i]? = some x) ∧ ∀ ys, SqK q K H b ys → ys[i]? = some y,
    fun i H => ∃ xs ys : List V, SqK p K H a xs ∧ SqK q K H b ys ∧ (xs.length ≤ i ∨ ys.length ≤ i)⟩
theorem turn_zk {p q : Bool} {P : Program} {w : World} {K : PySem.W.Frag} {elts : List Expr} {kk : Nat} {tpos : Pos} {a b z TI TO i1 i2 : Addr} (ap : ZipApart z TI TO i1 i2 a b) :
    Turn P w K (.Tuple elts kk tpos) (Itk2 p q K a b) [z, TI, TO, i1, i2] z (fun i h => IsZip h z TI TO .none ∧ IsPair h TI (.ref i1) (.ref i2) ∧ (∃ x y, IsPair h TO x y) ∧ Ik p h i1 a i ∧ Ik q h i2 b i) where
  mem := by simp
  obj := fun i h st c hc => by
    obtain ⟨kz, kI, ⟨x, y, kO⟩, j1, j2⟩ := st
    obtain ⟨o1, e1, d1⟩ := j1.obj
    obtain ⟨o2, e2, d2⟩ := j2.obj
    have e' : c = z ∨ c = TI ∨ c = TO ∨ c = i1 ∨ c = i2 := by simpa using hc
    rcases e' with q | q | q | q | q
    · rw [q]; exact ⟨_, kz, fun v q => nomatch q⟩
    · rw [q]; exact ⟨_, kI, fun v q => nomatch q⟩
    · rw [q]; exact ⟨_, kO, fun v q => nomatch q⟩
    · rw [q]; exact ⟨o1, e1, d1⟩
    · rw [q]; exact ⟨o2, e2, d2⟩
  keep := fun i h h' st k => by
    obtain ⟨kz, kI, ⟨x, y, kO⟩, h1, h2⟩ := st
    exact ⟨k z (by simp) _ kz, k TI (by simp) _ kI, ⟨x, y, k TO (by simp) _ kO⟩, h1.at1 fun o q => k i1 (by simp) o q, h2.at1 fun o q => k i2 (by simp) o q⟩
  item := by
    intro X hP hw hK hc i pins s σ H E I hf st hg
    subst hP hw hK
    obtain ⟨kz, kI, ⟨x0, y0, kO⟩, h1, h2⟩ := st
    obtain ⟨xs, ys, x, y, hqx, hqy, hx, hy⟩ := hg
    obtain ⟨its, rv, p, _⟩ := sqk I hqx
    obtain ⟨its2, rv2, p2, _⟩ := sqk I hqy
    obtain ⟨u, hu, ru⟩ := rv.get hx
    obtain ⟨u2, hu2, ru2⟩ := rv2.get hy
    have ltz : z < s.heap.objs.size := Heap.lt_size kz
    refine pyNext_zk_item ap kz kI kO h1 h2 p p2 (x := u) (y := u2) (by simpa using hu) (by simpa using hu2) fun h' z' TO' h1' h2' hT hsz hk => ?_
    refine ⟨_, rfl, wpAny_letOwnedTupleGo_zip (s := { s with heap := h' }) z' fun h'' z'' sb => ?_⟩
    have hT2 : h''.get? s.heap.objs.size = some { cls := .type "tuple", data := .seq #[u, u2] } := (sb.2 _ (Nat.ne_of_gt ltz)).trans hT
    have new : ObjOk X.prog X.w (upd H s.heap.objs.size (.tup [x, y])) h'' s.heap.objs.size (.tup [x, y]) :=
      ⟨by show 2 ≤ sizeLine; decide, [u, u2], .cons ru (.cons ru2 .nil), ⟨_, hT2, rfl, _, rfl⟩⟩
    have I1 : Inv X pins σ (upd H s.heap.objs.size (.tup [x, y])) { s with heap := h'' } :=
      I.turnedNew (t' := s.toks) (ch := [z, TI, TO, i1, i2]) (fun c o hb q => (sb.2 c (fun q' => hb (by simp [q']))).trans (hk c o (fun q' => hb (by simp [q'])) (fun q' => hb (by simp [q'])) (fun q' => hb (by simp [q'])) (fun q' => hb (by simp [q'])) q)) hf (Nat.le_refl _) new
    refine ⟨.ref s.heap.objs.size, _, I1, rfl, ⟨_, x, y, rfl, I.hok.fresh (Nat.le_refl _), rfl, fun l hl => by rw [sqk_inj I hl hqx]; exact hx, fun l hl => by rw [sqk_inj I hl hqy]; exact hy⟩, ⟨z'', ?_, ⟨u, u2, ?_⟩, ?_, ?_⟩, fun c hcm => ?_⟩
    · exact (sb.2 _ ap.TIz).trans (hk _ _ ap.TIz ap.TITO ap.TIi1 ap.TIi2 kI)
    · exact (sb.2 _ ap.TOz).trans TO'
    · exact h1'.at1 fun o q => (sb.2 _ ap.i1z).trans q
    · exact h2'.at1 fun o q => (sb.2 _ ap.i2z).trans q
    · have hlt : c < s.heap.objs.size := by
        have e' : c = z ∨ c = TI ∨ c = TO ∨ c = i1 ∨ c = i2 := by simpa using hcm
        rcases e' with q | q | q | q | q
        · rw [q]; exact ltz
        · rw [q]; exact Heap.lt_size kI
        · rw [q]; exact Heap.lt_size kO
        · rw [q]; obtain ⟨_, e1, _⟩ := h1.obj; exact Heap.lt_size e1
        · rw [q]; obtain ⟨_, e2, _⟩ := h2.obj; exact Heap.lt_size e2
      rw [upd_ne (Nat.ne_of_lt hlt)]
      exact (hf c hcm).1
  done := by
    intro X hP hw hK hc i pins s σ H E I hf st hg
    subst hP hw hK
    obtain ⟨kz, kI, ⟨x0, y0, kO⟩, h1, h2⟩ := st
    obtain ⟨xs, ys, hqx, hqy, hend⟩ := hg
    obtain ⟨its, rv, p, _⟩ := sqk I hqx
    obtain ⟨its2, rv2, p2, _⟩ := sqk I hqy
    have l1 := rv.length
    have l2 := rv2.length
    have he : its.toArray[i]? = none ∨ its2.toArray[i]? = none := by
      rcases hend with q | q
      · exact .inl (by simp; omega)
      · exact .inr (by simp; omega)
    exact pyNext_zk_end (I.ok.hd hc) ap kz kI kO h1 h2 p p2 he fun h' hk => ⟨rfl, I.turnedL (t' := s.toks) (ch := [z, TI, TO, i1, i2]) (fun c o hb q =>
      hk c o (fun q' => hb (by simp [q'])) (fun q' => hb (by simp [q'])) (fun q' => hb (by simp [q'])) (fun q' => hb (by simp [q'])) q) hf⟩
  self := fun A i s Q E st h => wpAny_pyIter_zip st.1 h

end Mi

set_option Elab.async false
set_option linter.all false
set_option maxRecDepth 100000
set_option maxHeartbeats 4000000
/-! Mi, part 18e: zip, enumerate as walks. -/
namespace Mi
open PySem PySem.Spec PyProof.Rows L2
section
variable {Z : Ci} {W : WX} {G : Ga} {X : Cx}
def iZk (K : PySem.W.Frag) (ta : TA) : TI := fun σ H R => ta σ H fun vs H1 => ∃ (p q : Bool) (a b : Addr) (xs ys : List V), vs = [.ref a, .ref b] ∧ SqK p K H1 a xs ∧ SqK q K H1 b ys ∧ R (Itk2 p q K a b) H1
theorem sk_lt {p : Bool} {h : Heap} {a : Addr} {xs : Array Value} (x : Sk p h a xs) : a < h.objs.size := by
  cases p
  · obtain ⟨o, e, _⟩ := x; exact Heap.lt_size e
  · obtain ⟨o, e, _⟩ := x; exact Heap.lt_size e
theorem pi_zk {e e2 : Expr} {ta : TA} {p pos tpos : Pos} {elts : List Expr} {kk : Nat} (hg : Gl X "zip") (hm : X.mg "zip" = none) (ha : PA X [e, e2] ta) (hs : starEach [e, e2] X.env = (false, eval e X.env) :: starEach [e2] X.env) (hpl : (backTo pos (starEach [e2] X.env)).any (·.1) = false) :
    PI X (.Tuple elts kk tpos) (.Call (.Name "zip" p) [e, e2] [] pos) (iZk X.K ta) := by
  refine ⟨fun pins s σ H R I h => ?_⟩
  refine Call_ (ld_blt I hg hm PyProof.Rows.boot_zip (PyProof.Rows.callWith_type1 (thn (ha.run pos pins s σ H _ I h) fun us s1 ⟨vs, H1, I1, r1, q1⟩ => ?_) hs hpl))
  obtain ⟨kp, kq, a, b, xs, ys, rfl, hqx, hqy, q⟩ := q1
  cases r1 with
  | cons r rr =>
    cases rr with
    | cons r' rr =>
      cases rr
      cases r
      cases r'
      obtain ⟨its, rv, p1, _⟩ := sqk I1 hqx
      obtain ⟨its2, rv2, p2, _⟩ := sqk I1 hqy
      have fresh5 : ∀ c, c ∈ [s1.heap.objs.size + 4, s1.heap.objs.size + 2, s1.heap.objs.size + 3, s1.heap.objs.size, s1.heap.objs.size + 1] → FpOk X pins H1 c := fun c hcm => by
        have hle : s1.heap.objs.size ≤ c := by
          simp at hcm; omega
        exact I1.fpOk hle (I1.hok.fresh hle)
      refine call_zk p1 p2 fun h' kz kI kO h1 h2 hsz hk => wpAny_pyIter_zip kz ?_
      have I2 : Inv X pins σ H1 { s1 with heap := h' } := I1.kept (t' := s1.toks) hk
      exact ⟨s1.heap.objs.size + 4, [s1.heap.objs.size + 4, s1.heap.objs.size + 2, s1.heap.objs.size + 3, s1.heap.objs.size, s1.heap.objs.size + 1], _, _, H1, rfl, I2, turn_zk (PySem.W.ktu_apart s1.heap.objs.size a b (sk_lt p1) (sk_lt p2)), ⟨kz, kI, ⟨_, _, kO⟩, h1, h2⟩, fresh5, q⟩
theorem walk_zk {p q : Bool} {K : PySem.W.Frag} {a b : Addr} {xs ys : List V} {n : Nat} (hn : n = min xs.length ys.length) : Walk (Itk2 p q K a b) n (fun H => SqK p K H a xs ∧ SqK q K H b ys) (YPair (fun i => xs[i]?) (fun i => ys[i]?)) := by
  subst hn
  refine ⟨fun i _ hi r => ?_, fun _ r => ⟨xs, ys, r.1, r.2, by omega⟩, fun i H v H' _ r y => ?_⟩
  · have h1 : i < xs.length := by omega
    have h2 : i < ys.length := by omega
    exact ⟨xs, ys, xs[i], ys[i], r.1, r.2, by simp [h1], by simp [h2]⟩
  · obtain ⟨T, x, z, h1, h2, h3, h4, h5⟩ := y
    exact ⟨T, x, z, h1, h2, h3, h4 xs r.1, h5 ys r.2⟩
theorem zipD_len : ∀ l m : List D, (zipD l m).length = min l.length m.length
  | [], m => by simp [zipD]
  | _ :: _, [] => by simp [zipD]
  | x :: l, y :: m => by simp [zipD, zipD_len l m]
theorem zipD_get : ∀ {l m : List D} {i : Nat} {x y : D}, l[i]? = some x → m[i]? = some y → (zipD l m)[i]? = some (.tup [x, y])
  | [], m, i, x, y, h, _ => by simp at h
  | _ :: _, [], i, x, y, _, h => by simp at h
  | a :: l, b :: m, 0, x, y, h1, h2 => by simp at h1 h2; subst h1 h2; rfl
  | a :: l, b :: m, i + 1, x, y, h1, h2 => by simpa [zipD] using zipD_get (i := i) (by simpa using h1) (by simpa using h2)
theorem numb_len : ∀ (l : List D) (i : Int), (numb i l).length = l.length
  | [], _ => rfl
  | x :: l, i => by simp [numb, numb_len l]
theorem numb_get : ∀ {l : List D} {j : Int} {i : Nat} {x : D}, l[i]? = some x → (numb j l)[i]? = some (.tup [.int (j + i), x])
  | [], j, i, x, h => by simp at h
  | a :: l, j, 0, x, h => by simp at h; subst h; simp [numb]
  | a :: l, j, i + 1, x, h => by
    have := numb_get (j := j + 1) (i := i) (x := x) (by simpa using h)
    show (numb (j + 1) l)[i]? = _
    rw [this, show j + 1 + (i : Int) = j + ((i + 1 : Nat) : Int) by omega]
/-- a new pair -/
theorem pair_rep {F H : Hp} {ρ : List Addr} {S : Sto} {T : Addr} {x y : V} {dx dy : D} (s : StoR Z F ρ S H) (hT : H T = none) (rx : Rep Z F ρ dx x) (ry : Rep Z F ρ dy y) : ∃ F2, Ext nO F ρ H F2 ρ (upd H T (.tup [x, y])) ∧ StoR Z F2 ρ S (upd H T (.tup [x, y])) ∧ Rep Z F2 ρ (.tup [dx, dy]) (.ref T) := by
  have e : Ext nO F ρ H (upd F T (.tup [x, y])) ρ (upd H T (.tup [x, y])) := Ext.laid hT s.le
  exact ⟨_, e, s.laid hT, .tup (.inl (.inl upd_same)) (e.reps (.cons rx (.cons ry .nil)))⟩
/-- an operand, of its kind, while all but O stands -/
theorem sqk_of {O : Addr → Prop} {F H : Hp} {ρ : List Addr} {S : Sto} {a : Addr} {vs : List V} (hK : X.K = Z.K) (h : Rd F a (.lst vs) ∨ ((∀ b, ¬ O b) ∧ Rd H a (.lst vs)) ∨ SqT Z.K F a vs) (s : StoR Z F ρ S H) : ∃ p, ∀ F1 ρ1 S1 H1, Ext O F ρ H F1 ρ1 H1 → StoR Z F1 ρ1 S1 H1 → SqK p X.K H1 a vs := by
  rcases qQ_seq (X := X) (F1 := F) (ρ1 := ρ) (S1 := S) (H1 := H) hK h s with z | z
  · exact ⟨false, fun F1 ρ1 S1 H1 e s1 => .inl (z F1 ρ1 S1 H1 e s1)⟩
  · exact ⟨true, fun F1 ρ1 S1 H1 e s1 => z F1 ρ1 S1 H1 e s1⟩
theorem qQ.step {O : Addr → Prop} {l : List D} {x : V} {F H F1 H1 : Hp} {ρ ρ1 : List Addr} {S : Sto} (e : Ext nO F ρ H F1 ρ1 H1) (s : StoR Z F ρ S H) (p : qQ Z O l x F ρ H) : qQ Z O l x F1 ρ1 H1 := by
  obtain ⟨a, vs, rfl, h, r⟩ := p
  refine ⟨a, vs, rfl, ?_, e.reps r⟩
  rcases h with h | ⟨h1, h⟩ | h
  · exact .inl (rdM e.le h)
  · exact .inr (.inl ⟨h1, rd_ext e s (fun q => q) h⟩)
  · exact .inr (.inr (seqT e.le h))
theorem si_zip {s t : Sq} {a b : Expr} {O : Addr → Prop} {elts : List Expr} {kk : Nat} {tpos p pos : Pos} (hK : X.K = Z.K) (hg : Gl X "zip") (hm : X.mg "zip" = none) (ha : PE X a (tQo Z W G O s)) (hb : PE X b (tQo Z W G O t)) (h2 : starEach [a, b] X.env = (false, eval a X.env) :: starEach [b] X.env) (h1 : starEach [b] X.env = [(false, eval b X.env)]) :
    PI X (.Tuple elts kk tpos) (.Call (.Name "zip" p) [a, b] [] pos) (tI Z W G O (.zip s t)) := by
  refine ⟨fun pins st σ H Rr I h => (pi_zk hg hm (pa_two ha hb h2 h1) h2 (by rw [h1]; rfl)).run pins st σ H Rr I ?_⟩
  refine (tG.bind2 (f := evq G s) (g := evq G t) (k := fun l m _ S => R.ok (zipD l m) S) (P := qQ Z O) (P' := qQ Z O) (fun a b F ρ H F1 ρ1 H1 S e s p => qQ.step e s p) (h.eq fun v S => by rw [evt])).wk fun x H1 h1 => tG.wk h1 fun y H2 ⟨l, m, F2, ρ2, v2, S2, he, hs, p1, p2, q⟩ => ?_
  obtain ⟨c1, vs1, rfl, g1, r1⟩ := p1
  obtain ⟨c2, vs2, rfl, g2, r2⟩ := p2
  obtain ⟨k1, z1⟩ := sqk_of (X := X) hK g1 hs
  obtain ⟨k2, z2⟩ := sqk_of (X := X) hK g2 hs
  refine ⟨k1, k2, c1, c2, vs1, vs2, rfl, z1 _ _ _ _ .refl hs, z2 _ _ _ _ .refl hs, PostA.done (P := pI Z O) q hs ⟨_, _, walk_len (walk_zk rfl) (by rw [zipD_len, r1.len, r2.len]), fun F1 ρ1 S1 H1 e s1 => ⟨z1 _ _ _ _ e s1, z2 _ _ _ _ e s1⟩, fun i Hc x H' F1 ρ1 S1 e s1 hi yy => ?_⟩⟩
  obtain ⟨T, u, w, rfl, hT, rfl, hu, hw⟩ := yy
  obtain ⟨d1, e1, q1⟩ := nth_of (e.reps r1) hu
  obtain ⟨d2, e2, q2⟩ := nth_of (e.reps r2) hw
  obtain ⟨F3, x1, x2, x3⟩ := pair_rep s1 hT q1 q2
  exact ⟨F3, _, x1, x2, zipD_get e1 e2, x3⟩
/-- lists only -/
def qL (Z : Ci) (O : Addr → Prop) : List D → V → Hp → List Addr → Hp → Prop := fun l x F ρ H => ∃ a vs, x = .ref a ∧ (Rd F a (.lst vs) ∨ ((∀ b, ¬ O b) ∧ Rd H a (.lst vs))) ∧ Reps Z F ρ l vs
abbrev tLo (Z : Ci) (W : WX) (G : Ga) (O : Addr → Prop) (s : Sq) : TE := tG Z W (evl G s) (qL Z O)
theorem slo_of {s : Sq} {a : Expr} {O : Addr → Prop} (h : OkQ X Z W G s a) (ho : noOwn s = true ∨ ∀ b, ¬ O b) (hx : ∀ e, s = .ex e → PE X a (tE Z W G e)) : PE X a (tLo Z W G O s) := by
  cases s with
  | own i =>
    have ho : ∀ b, ¬ O b := ho.resolve_left (by simp [noOwn])
    refine h.2.1.imp fun σ H Q ⟨F, ρ, v, S, he, hs, hp⟩ => ⟨F, ρ, v, S, he, hs, hp.mono fun l x F' ρ' H' _ p k => k x ?_⟩
    obtain ⟨a, vs, ex, h, r⟩ := p
    exact ⟨a, vs, ex, .inr ⟨ho, h⟩, r⟩
  | ex e =>
    refine (hx e rfl).imp fun σ H Q q => ?_
    refine tG.map (P := pV Z) (k := fun x S => match x with | .lst l => R.ok l S | _ => .bad) (q.eq fun v S => by rw [evl] <;> rfl) fun d b F ρ H S hs p => ?_
    cases p with
    | lst h1 r => exact .inl ⟨_, rfl, _, _, rfl, .inl h1, r⟩
    | _ => exact .inr rfl
theorem si_enum {s : Sq} {a : Expr} {O : Addr → Prop} {elts : List Expr} {kk : Nat} {tpos p pos : Pos} (hg : Gl X "enumerate") (hm : X.mg "enumerate" = none) (ha : PE X a (tLo Z W G O s)) (h1 : starEach [a] X.env = [(false, eval a X.env)]) :
    PI X (.Tuple elts kk tpos) (.Call (.Name "enumerate" p) [a] [] pos) (tI Z W G O (.enum s)) := by
  refine ⟨fun pins st σ H Rr I h => (pi_enum hg hm (pa_one ha h1) h1).run pins st σ H Rr I ?_⟩
  refine (tG.bind (f := evl G s) (k := fun l _ S => R.ok (numb 0 l) S) (P := qL Z O) (h.eq fun v S => by rw [evt])).wk fun x H1 ⟨l, F2, ρ2, v2, S2, he, hs, p1, q⟩ => ?_
  obtain ⟨c1, vs1, rfl, g1, r1⟩ := p1
  have z1 : ∀ F1 ρ1 S1 H1', Ext O F2 ρ2 H1 F1 ρ1 H1' → StoR Z F1 ρ1 S1 H1' → SqL X.K H1' c1 vs1 := fun F1 ρ1 S1 H1' e s1 => by
    rcases g1 with g | ⟨ho, g⟩
    · exact .inl (rdM s1.le (rdM e.le g))
    · exact .inl (rd_ext e hs (ho c1) g)
  refine ⟨c1, vs1, rfl, z1 _ _ _ _ .refl hs, PostA.done (P := pI Z O) q hs ⟨_, _, walk_len walk_enum (by rw [numb_len, r1.len]), fun F1 ρ1 S1 H1 e s1 => z1 _ _ _ _ e s1, fun i Hc x H' F1 ρ1 S1 e s1 hi yy => ?_⟩⟩
  obtain ⟨T, u, w, rfl, hT, rfl, hu, hw⟩ := yy
  obtain ⟨d2, e2, q2⟩ := nth_of (e.reps r1) hw
  cases hu
  obtain ⟨F3, x1, x2, x3⟩ := pair_rep s1 hT (.int (i := (i : Nat))) q2
  refine ⟨F3, _, x1, x2, ?_, x3⟩
  rw [numb_get e2]
  simp
end
end Mi

set_option Elab.async false
set_option linter.all false
set_option maxRecDepth 100000
set_option maxHeartbeats 4000000
/-! Mi, part 19: sums of anything that can be added. -/
namespace Mi
open PySem PySem.Spec PyProof.Rows L2
section
variable {Z : Ci} {W : WX} {G : Ga} {X : Cx}
/-- within a builtin; nothing may be raised -/
def X1 (X : Cx) : Cx := { X with A := X.A.in1, xe := fun _ _ => False }
theorem takes0 {X : Cx} : L2.Takes X W0 := fun u s' ⟨_, _, _, _, _, _, _, _, _, _, _, _, _, _, _, _, w⟩ => w.elim
theorem inv1 {pins : List (Addr × Obj)} {σ : L2.St} {H : Hp} {s : Shared} (I : Inv X pins σ H s) : Inv (X1 X) pins σ H s :=
  ⟨⟨I.ok.mod, I.ok.kind, I.ok.glob, I.ok.blt, I.ok.above, I.ok.inj, I.ok.has, I.ok.cab, I.ok.hd, I.ok.frames, I.ok.stk, I.ok.exf, I.ok.bs, I.ok.bsz, I.ok.noex, I.ok.exfs, I.ok.funs, I.ok.frf⟩, I.os, I.bare, I.base, I.loc, I.cell, I.free, I.freeC, I.pin, I.hok, I.len⟩
theorem inv0 {pins : List (Addr × Obj)} {σ : L2.St} {H : Hp} {s : Shared} (J : X.Ok) (I : Inv (X1 X) pins σ H s) : Inv X pins σ H s :=
  ⟨J, I.os, I.bare, I.base, I.loc, I.cell, I.free, I.freeC, I.pin, I.hok, I.len⟩
/-- not a float -/
def noFl : Value → Prop
  | .float _ _ => False
  | _ => True
theorem noFl_rep {F : Hp} {ρ : List Addr} {d : D} {x : V} {u : Value} (r : Rep Z F ρ d x) (h : RelV x u) : noFl u := by
  cases r <;> first | (cases h; trivial) | (obtain ⟨t, rfl⟩ := h; trivial)
def sumPlain (it total v : Value) (state : Addr) (next : Value → Int) : Sem Fin := do
    match ← (holding [v] (binaryOp .Add total v)).attempt with
    | .ok r => updateSeq state fun _ => #[r]; letGo [total, v]; updateSeq state fun _ => #[r]; again (.builtin "sum.loop" ⟨[it, .ref state, rawInt (next r), rawInt 0], []⟩)
    | .error e => updateSeq state fun _ => #[]; letGo [total, v] [e]; throw e
def stObj (u : Value) (c : Nat) : Obj := { cls := .type "list", dict := none, data := .seq #[u] c, slots := #[] }
/-- one addition, then on -/
theorem sum_plain {pins : List (Addr × Obj)} {σ : L2.St} {a it Sx : Addr} {R : Result → Shared → Prop} {s : Shared} {H F : Hp} {ρ : List Addr} {S : Sto} {t d : D} {tv dv : V} {tu du : Value} {c i : Nat} {kq : Bool} {next : Value → Int} {Q : VK} {l : List D} {E : Value → Shared → Prop}
    (hop : OpR (X1 X) (binaryOp .Add) (rB Z G .add)) (hne : it ≠ Sx) (hn : ∀ u, noFl u → next u = 2)
    (I : Inv (X1 X) pins σ H s) (hs : StoR Z F ρ S H) (hi : Ik kq s.heap it a i) (hS : s.heap.get? Sx = some (stObj tu c)) (f1 : FpOk (X1 X) pins H it) (f2 : FpOk (X1 X) pins H Sx)
    (r1 : Rep Z F ρ t tv) (v1 : RelV tv tu) (r2 : Rep Z F ρ d dv) (v2 : RelV dv du) (hq : PostA Z W0 ((binop G .add t d S).bind fun x S => sumL G l x S) (pV Z) F ρ σ H Q)
    (go : ∀ s' H' F' ρ' S' x xv xu c', Inv (X1 X) pins σ H' s' → Ext nO F ρ H F' ρ' H' → StoR Z F' ρ' S' H' → Ik kq s'.heap it a i → s'.heap.get? Sx = some (stObj xu c') → FpOk (X1 X) pins H' it → FpOk (X1 X) pins H' Sx → Rep Z F' ρ' x xv → RelV xv xu →
      PostA Z W0 (sumL G l x S') (pV Z) F' ρ' σ H' Q → codeAny (model X.prog X.w) X.A (.builtin "sum.loop" ⟨[.ref it, .ref Sx, rawInt 2, rawInt 0], []⟩) R s') :
    wpAny (model X.prog X.w) X.A.in1 (sumPlain (.ref it) tu du Sx next) (fun fin s' => match fin with | .done f => R (.ok f) s' | .again c' => c'.quiet = true ∧ codeAny (model X.prog X.w) X.A c' R s') E s := by
  obtain ⟨oi, hoi, hdi⟩ := hi.obj
  have objs : ∀ b ∈ [it, Sx], ∃ o, s.heap.get? b = some o ∧ ∀ v, o.data ≠ .cell v := fun b hb => by
    have e : b = it ∨ b = Sx := by simpa using hb
    rcases e with rfl | rfl
    · exact ⟨oi, hoi, hdi⟩
    · exact ⟨_, hS, fun v z => by cases z⟩
  have fp : ∀ b ∈ [it, Sx], FpOk (X1 X) pins H b := fun b hb => by
    have e : b = it ∨ b = Sx := by simpa using hb
    rcases e with rfl | rfl
    · exact f1
    · exact f2
  have I' := I.pinned fp objs
  unfold sumPlain
  refine wpAny_bind (wpAny_attempt (wpAny_holding ?_))
  refine wpAny_mono (hop _ s σ H tv dv tu du (fun x H' => ∃ y F' ρ' S', Ext nO F ρ H F' ρ' H' ∧ StoR Z F' ρ' S' H' ∧ Rep Z F' ρ' y x ∧ PostA Z W0 (sumL G l y S') (pV Z) F' ρ' σ H' Q) I' v1 v2 ⟨F, ρ, S, t, d, hs, r1, r2, ?_⟩) (fun u s1 ⟨x, H1, I1, rv, y, F1, ρ1, S1, e1, s1', ry, q1⟩ => ?_) fun e s1 z => (show False from z).elim
  · have := PostA.bind (P := pV Z) hq
    refine PostA.un (PostA.mono this fun a b F' ρ' H' e p g => ?_)
    obtain ⟨y, F1, ρ1, S1, e1, s1, p1, q1⟩ := g b p
    exact ⟨y, F1, ρ1, S1, e1, s1, p1, q1⟩
  · have pinI := fun b o (hb : b ∈ [it, Sx]) (e : s.heap.get? b = some o) => I1.pin (b, o) (List.mem_append_right _ (List.mem_append_right _ (mem_pinsAt hb e)))
    obtain ⟨k1, n1, _⟩ := pinI it oi (by simp) hoi
    obtain ⟨k2, n2, _⟩ := pinI Sx _ (by simp) hS
    have g1 : FpOk (X1 X) pins H1 it := ⟨n1, f1.2⟩
    have g2 : FpOk (X1 X) pins H1 Sx := ⟨n2, f2.2⟩
    have I2 := I1.unpinned
    show wpAny _ X.A.in1 (updateSeq Sx (fun _ => #[u]) >>= _) _ _ _
    refine wpAny_bind (wpAny_updateSeq k2 rfl ?_)
    have h2 := Heap.get?_update_self (Obj.mapSeq fun _ => #[u]) k2 rfl
    refine wpAny_bind (wpAny_letGo (wpAny_bind (wpAny_updateSeq h2 rfl ?_)))
    have h3 := Heap.get?_update_self (Obj.mapSeq fun _ => #[u]) h2 rfl
    refine wpAny_pure ⟨plainId_quiet PySem.F.plain_sum_loop _, ?_⟩
    rw [hn u (noFl_rep ry rv)]
    have kp : ∀ b o, b ≠ Sx → s1.heap.get? b = some o → ((s1.heap.update Sx (Obj.mapSeq fun _ => #[u])).update Sx (Obj.mapSeq fun _ => #[u])).get? b = some o := fun b o hb e =>
      (Heap.get?_update_other _ _ (Ne.symm hb)).trans ((Heap.get?_update_other _ _ (Ne.symm hb)).trans e)
    have I3 := I2.turned (t' := s1.toks) (it := Sx) kp g2.1 g2.2.1 g2.2.2.2.1 g2.2.2.2.2.1 g2.2.2.2.2.2
    refine go _ H1 F1 ρ1 S1 y x u _ I3 e1 s1' (hi.at1 fun o ho => by rw [hoi] at ho; cases ho; exact kp it oi hne k1) h3 g1 g2 ry rv q1
theorem pn_item {prog : Program} {w : World} {A : Around} {E : Value → Shared → Prop} {s : Shared} {p : Bool} {it l : Addr} {i : Nat} {items : Array Value} {x : Value} {Q : Option Value → Shared → Prop} (hit : Ik p s.heap it l i) (hl : Sk p s.heap l items) (hx : items[i]? = some x)
    (k : ∀ h', Ik p h' it l (i + 1) → Heap.SameBut it s.heap h' → Q (some x) { s with heap := h' }) : wpAny (model prog w) A (pyNext (.ref it)) Q E s := by
  cases p
  · exact wpAny_pyNext_list_item hit hl hx k
  · exact wpAny_pyNext_tuple_item hit hl hx k
theorem pn_end {prog : Program} {w : World} {A : Around} {E : Value → Shared → Prop} {s : Shared} {p : Bool} {it l : Addr} {i : Nat} {items : Array Value} {Q : Option Value → Shared → Prop} (hh : A.handled = none) (hit : Ik p s.heap it l i) (hl : Sk p s.heap l items) (hx : items[i]? = none)
    (k : ∀ h', Heap.ExtBut it s.heap h' → Q none { s with heap := h' }) : wpAny (model prog w) A (pyNext (.ref it)) Q E s := by
  cases p
  · exact wpAny_pyNext_list_end hh hit hl hx k
  · exact wpAny_pyNext_tuple_end hh hit hl hx k
/-- a source that is read: a list that is tracked, a tuple that stands -/
def Src (X : Cx) (p : Bool) (H : Hp) (a : Addr) (vs : List V) : Prop := match p with
  | true => SqT X.K H a vs
  | false => Rd H a (.lst vs)
theorem Src.sq {p : Bool} {H : Hp} {a : Addr} {vs : List V} (h : Src X p H a vs) : SqK p X.K H a vs := by
  cases p
  · exact .inl h
  · exact h
theorem Src.ext {p : Bool} {F F1 H H1 : Hp} {ρ ρ1 : List Addr} {S : Sto} {a : Addr} {vs : List V} (e : Ext nO F ρ H F1 ρ1 H1) (s : StoR Z F ρ S H) (h : Src X p H a vs) : Src X p H1 a vs := by
  cases p
  · exact rd_ext e s (fun q => q) h
  · exact sqT_ext e s (fun q => q) h
theorem sum_loop {kq : Bool} {pins : List (Addr × Obj)} {σ : L2.St} {a it Sx : Addr} {l0 : List D} {vs0 : List V} {R : Result → Shared → Prop} {Q : VK} (hc : X.calm = true) (hop : OpR (X1 X) (binaryOp .Add) (rB Z G .add)) (hne : it ≠ Sx)
    (hR : ∀ s' x u' H', Inv (X1 X) pins σ H' s' → RelV x u' → Q x H' → R (.ok (.ret u')) s') :
    ∀ (l : List D) (i : Nat) (s : Shared) (H F : Hp) (ρ : List Addr) (S : Sto) (t : D) (tv : V) (tu : Value) (c : Nat) (st : Int), l0.drop i = l → i ≤ l0.length → Inv (X1 X) pins σ H s → StoR Z F ρ S H → Src X kq H a vs0 → Reps Z F ρ l0 vs0 → Ik kq s.heap it a i → s.heap.get? Sx = some (stObj tu c) →
      FpOk (X1 X) pins H it → FpOk (X1 X) pins H Sx → Rep Z F ρ t tv → RelV tv tu → (st = 2 ∨ (st = 0 ∧ ∃ k, t = .int k)) → PostA Z W0 (sumL G l t S) (pV Z) F ρ σ H Q →
      codeAny (model X.prog X.w) X.A (.builtin "sum.loop" ⟨[.ref it, .ref Sx, rawInt st, rawInt 0], []⟩) R s := by
  intro l
  induction l with
  | nil =>
    intro i s H F ρ S t tv tu c st hd hi I hs hrd hr hit hS f1 f2 rt rv hst hq
    have hin : l0.length ≤ i := by simpa using hd
    refine codeAny_builtin PySem.F.entry_sum_loop ?_
    rw [Around.under_plainId PySem.F.plain_sum_loop _]
    show wpAny _ X.A.in1 (seqItems? (.ref Sx) >>= _) _ _ s
    refine wpAny_bind (wpAny_seqItems hS rfl ?_)
    show wpAny _ X.A.in1 (tryCatch (pyNext (.ref it)) _ >>= _) _ _ s
    obtain ⟨its, rvs, pl, _⟩ := sqk I hrd.sq
    have hl := rvs.length
    have hl2 := hr.len
    refine wpAny_bind (wpAny_tryCatch (pn_end (I.ok.hd hc) hit pl (by simp; omega) fun h' eb => ?_))
    have I1 : Inv (X1 X) pins σ H { s with heap := h' } := I.turned (t' := s.toks) (fun b o hb e => eb b o hb e) f1.1 f1.2.1 f1.2.2.2.1 f1.2.2.2.2.1 f1.2.2.2.2.2
    have fin := hR _ tv tu H I1 rv (PostA.done hq hs rt)
    have hf := noFl_rep rt rv
    cases tu <;> first | exact hf.elim | exact wpAny_pure fin
  | cons d l ih =>
    intro i s H F ρ S t tv tu c st hd hi I hs hrd hr hit hS f1 f2 rt rv hst hq
    have hlt : i < l0.length := by
      by_cases z : i < l0.length
      · exact z
      · rw [List.drop_eq_nil_of_le (by omega)] at hd; cases hd
    have hdi : l0[i]? = some d := by
      rw [List.drop_eq_getElem_cons hlt] at hd
      rw [List.getElem?_eq_getElem hlt, (List.cons.inj hd).1]
    have hd' : l0.drop (i + 1) = l := by
      rw [List.drop_eq_getElem_cons hlt] at hd
      exact (List.cons.inj hd).2
    refine codeAny_builtin PySem.F.entry_sum_loop ?_
    rw [Around.under_plainId PySem.F.plain_sum_loop _]
    show wpAny _ X.A.in1 (seqItems? (.ref Sx) >>= _) _ _ s
    refine wpAny_bind (wpAny_seqItems hS rfl ?_)
    show wpAny _ X.A.in1 (tryCatch (pyNext (.ref it)) _ >>= _) _ _ s
    obtain ⟨its, rvs, pl, _⟩ := sqk I hrd.sq
    obtain ⟨dv, hdv, rd⟩ := hr.get hdi
    obtain ⟨du, hdu, rdu⟩ := rvs.get hdv
    refine wpAny_bind (wpAny_tryCatch (pn_item hit pl (x := du) (by simpa using hdu) fun h' hit' sb => ?_))
    have I1 : Inv (X1 X) pins σ H { s with heap := h' } := I.turned (t' := s.toks) (fun b o hb e => (sb.2 b hb).trans e) f1.1 f1.2.1 f1.2.2.2.1 f1.2.2.2.2.1 f1.2.2.2.2.2
    have hS1 : h'.get? Sx = some (stObj tu c) := (sb.2 Sx (Ne.symm hne)).trans hS
    have hq : PostA Z W0 ((binop G .add t d S).bind fun x S => sumL G l x S) (pV Z) F ρ σ H Q := hq
    have go : ∀ s' H' F' ρ' S' x xv xu c', Inv (X1 X) pins σ H' s' → Ext nO F ρ H F' ρ' H' → StoR Z F' ρ' S' H' → Ik kq s'.heap it a (i + 1) → s'.heap.get? Sx = some (stObj xu c') → FpOk (X1 X) pins H' it → FpOk (X1 X) pins H' Sx → Rep Z F' ρ' x xv → RelV xv xu →
      PostA Z W0 (sumL G l x S') (pV Z) F' ρ' σ H' Q → codeAny (model X.prog X.w) X.A (.builtin "sum.loop" ⟨[.ref it, .ref Sx, rawInt 2, rawInt 0], []⟩) R s' :=
      fun s' H' F' ρ' S' x xv xu c' I' e' hs' hit' hS' g1 g2 rx rxv q' => ih (i + 1) s' H' F' ρ' S' x xv xu c' 2 hd' hlt I' hs' (hrd.ext e' hs) (e'.reps hr) hit' hS' g1 g2 rx rxv (.inl rfl) q'
    have plain : ∀ {next : Value → Int} {E : Value → Shared → Prop}, (∀ u, noFl u → next u = 2) → wpAny (model X.prog X.w) X.A.in1 (sumPlain (.ref it) tu du Sx next) (fun fin s' => match fin with | .done f => R (.ok f) s' | .again c' => c'.quiet = true ∧ codeAny (model X.prog X.w) X.A c' R s') E { s with heap := h' } :=
      fun hn => sum_plain hop hne hn I1 hs hit' hS1 f1 f2 rt rv rd rdu hq go
    cases rt with
    | @int k =>
      obtain ⟨tk, rfl⟩ := rv
      rcases hst with rfl | ⟨rfl, _⟩
      · exact plain (next := fun _ => 2) fun _ _ => rfl
      · cases rd with
        | @int j =>
          obtain ⟨tj, rfl⟩ := rdu
          show wpAny _ X.A.in1 (if (_ : Bool) = true then (mkInt (k + j) >>= _) else _) _ _ _
          split
          · refine wpAny_bind (wpAny_mkInt ?_)
            show wpAny _ X.A.in1 (updateSeq Sx (fun _ => #[Value.int (k + j) s.toks]) >>= _) _ _ _
            refine wpAny_bind (wpAny_updateSeq hS1 rfl ?_)
            have h3 := Heap.get?_update_self (Obj.mapSeq fun _ => #[Value.int (k + j) s.toks]) hS1 rfl
            refine wpAny_pure ⟨plainId_quiet PySem.F.plain_sum_loop _, ?_⟩
            have kp : ∀ b o, b ≠ Sx → h'.get? b = some o → (h'.update Sx (Obj.mapSeq fun _ => #[Value.int (k + j) s.toks])).get? b = some o := fun b o hb e => (Heap.get?_update_other _ _ (Ne.symm hb)).trans e
            obtain ⟨oi, hoi, hdi'⟩ := hit'.obj
            have I2 := I1.turned (t' := s.toks + 1) (it := Sx) kp f2.1 f2.2.1 f2.2.2.2.1 f2.2.2.2.2.1 f2.2.2.2.2.2
            exact ih (i + 1) _ H F ρ S (.int (k + j)) (.int (k + j)) _ _ 0 hd' hlt I2 hs hrd hr (hit'.at1 fun o ho => by rw [hoi] at ho; cases ho; exact kp it oi hne hoi) h3 f1 f2 .int ⟨_, rfl⟩ (.inr ⟨rfl, _, rfl⟩) hq
          · exact wpAny_bind (wpAny_rule (plain (next := fun _ => 2) fun _ _ => rfl))
        | bl => exact hq.elim
        | non => exact hq.elim
        | str => exact hq.elim
        | lst => exact hq.elim
        | tup => exact hq.elim
        | dr => exact hq.elim
        | fn => exact hq.elim
        | ins =>
          cases rdu
          exact wpAny_bind (wpAny_rule (plain (next := _) fun u hu => by cases u <;> first | exact hu.elim | rfl))
    | str =>
      obtain ⟨tk, rfl⟩ := rv
      rcases hst with rfl | ⟨_, _, e⟩
      · exact plain (next := fun _ => 2) fun _ _ => rfl
      · cases e
    | _ =>
      cases rv
      rcases hst with rfl | ⟨_, _, e⟩
      · exact plain (next := fun _ => 2) fun _ _ => rfl
      · cases e
/-- sum(xs) -/
def rSumD (X : Cx) (Z : Ci) (G : Ga) : List V → Hp → VK → Prop := fun xs H Q => ∃ kq a vs F ρ S l, xs = [V.ref a] ∧ StoR Z F ρ S H ∧ Src X kq H a vs ∧ Reps Z F ρ l vs ∧ PostA Z W0 (sumL G l (.int 0) S) (pV Z) F ρ [] H Q
theorem cr_sumD (hc : X.calm = true) (hop : OpR (X1 X) (binaryOp .Add) (rB Z G .add)) : CallR X (.builtin "sum") (rSumD X Z G) := by
  intro pins s σ H xs us Q I r ⟨kq, a, vs, F, ρ, S, l, ex, hs, hrd, hr, q⟩
  subst ex
  rw [Vals.ref1 r]
  obtain ⟨its, rvs, pl, _⟩ := sqk I hrd.sq
  refine call_function_tree PySem.F.kind_sum PySem.F.plain_sum PySem.F.entry_sum (PySem.F.args_sum1 _) ?_
  unfold Builtin.«sum»
  simp only [List.length_cons, List.length_nil]
  rw [if_neg (by decide)]
  refine wpAny_bind (wpAny_of_eq (show Builtin.Builtins.bindParams "sum" ["start"] 0 { } = pure [none] from rfl) ?_)
  refine wpAny_bind (pk_iter pl ?_)
  refine wpAny_bind (wpAny_mkInt ?_)
  refine wpAny_bind (wpAny_pure ?_)
  simp only [List.forIn_cons, List.forIn_nil]
  refine wpAny_bind (wpAny_bind (wpAny_bind (wpAny_isInstance (T := "int") (b := false) (typeIs_int _ _ _) PySem.sub_int_str ?_)))
  simp only [Bool.false_eq_true, if_false]
  refine wpAny_pure (wpAny_bind (wpAny_bind (wpAny_isInstance (T := "int") (b := false) (typeIs_int _ _ _) PySem.sub_int_bytes ?_)))
  simp only [Bool.false_eq_true, if_false]
  refine wpAny_pure (wpAny_bind (wpAny_bind (wpAny_isInstance (T := "int") (b := false) (typeIs_int _ _ _) PySem.sub_int_bytearray ?_)))
  simp only [Bool.false_eq_true, if_false]
  refine wpAny_pure (wpAny_pure ?_)
  refine wpAny_bind (wpAny_newObj_type ?_)
  refine wpAny_pure ⟨plainId_quiet PySem.F.plain_sum_loop _, ?_⟩
  have hsz := Heap.size_push s.heap (itO kq a)
  refine sum_loop (pins := pins) (σ := σ) (Q := Q) hc hop (Nat.ne_of_lt (show s.heap.objs.size < (s.heap.push (itO kq a)).objs.size by rw [hsz]; exact Nat.lt_succ_self _)) (fun s' x u' H' I' rv q => ⟨x, H', inv0 I.ok I', rv, q⟩) l 0 _ H F ρ S (.int 0) (.int 0) _ 0 0 rfl (Nat.zero_le _) ?_ hs hrd hr (ik_new (Heap.get?_push_of_some _ (Heap.get?_push_size _ (itO_free kq a)))) (Heap.get?_push_size _ rfl) ((inv1 I).fpOk (Nat.le_refl _) (I.hok.fresh (Nat.le_refl _))) ?_ .int ⟨_, rfl⟩ (.inr ⟨rfl, _, rfl⟩) (q.un (σ' := σ))
  · exact (inv1 I).kept (t' := s.toks + 1) fun b o e => Heap.get?_push_of_some _ (Heap.get?_push_of_some _ e)
  · have hle : s.heap.objs.size ≤ (s.heap.push (itO kq a)).objs.size := by rw [hsz]; exact Nat.le_succ _
    exact (inv1 I).fpOk hle (I.hok.fresh hle)
theorem sumL_nox : ∀ {l : List D} {t : D} {S S' : Sto} {c : Nat} {fs : List D}, sumL G l t S = .ex c fs S' → False
  | [], t, S, S', c, fs, h => by cases h
  | d :: l, t, S, S', c, fs, h => by
    have h : (binop G .add t d S).bind (fun a S => sumL G l a S) = .ex c fs S' := h
    cases e : binop G .add t d S with
    | ok r S1 => rw [e] at h; exact sumL_nox h
    | bad => rw [e] at h; cases h
    | ex c1 f1 S1 => exact binop_nox e
theorem se_sum {s : Sq} {a : Expr} {p pos} (hK : X.K = Z.K) (hc : X.calm = true) (hop : OpR (X1 X) (binaryOp .Add) (rB Z G .add)) (hg : Gl X "sum") (hm : X.mg "sum" = none) (ha : OkQ X Z W G s a) (h1 : starEach [a] X.env = [(false, eval a X.env)]) :
    PE X (.Call (.Name "sum" p) [a] [] pos) (tE Z W G (.sum s)) := by
  refine (pe_callB (cr_sumD hc hop) hg hm (by decide +kernel) (pa_one ha.1 h1) (by decide) (by decide) (by rw [h1]; rfl) rfl).imp fun σ H Q h => ?_
  refine (tG.bind (P := pQ Z) (f := evq G s) (k := fun l _ S => sumL G l (.int 0) S) (h.eq fun v S => by rw [ev])).wk fun y H1 ⟨l, F1, ρ1, v1, S1, he, hs, ⟨a, vs, ex, hr, r⟩, q⟩ => ?_
  obtain ⟨kq, hr⟩ : ∃ kq, Src X kq H1 a vs := hr.elim (fun h => ⟨false, h⟩) fun h => ⟨true, (by rw [hK]; exact seqT hs.le h : SqT X.K H1 a vs)⟩
  refine ⟨kq, a, vs, F1, ρ1, S1, l, by rw [ex], hs, hr, r, ?_⟩
  cases e : sumL G l (.int 0) S1 with
  | ok r S' => rw [e] at q; exact q
  | bad => rw [e] at q; exact q
  | ex c fs S' => exact (sumL_nox e).elim
end
end Mi

set_option Elab.async false
set_option linter.all false
set_option maxRecDepth 100000
set_option maxHeartbeats 4000000
/-! Mi, part 20: what the matcher asks of the text: small facts. -/
namespace Mi
open PySem PySem.Spec PyProof.Rows L2
def notStar : Expr → Bool
  | .Starred .. => false
  | _ => true
theorem star_cons {a : Expr} {as : List Expr} {env : PySem.Env} (h : notStar a = true) : starEach (a :: as) env = (false, eval a env) :: starEach as env := by
  cases a <;> first | rfl | cases h
def plainT : Expr → Bool
  | .UnaryOp .Not .. => false
  | .BoolOp .. => false
  | .IfExp .. => false
  | .Compare .. => false
  | _ => true
theorem isTrue_plain {a : Expr} {env : PySem.Env} (h : plainT a = true) (whole : Sem Value) : isTrue a env whole = (do let v ← whole; standAt a.pos; holding [v] (truthy v)) := by
  cases a <;> first | rfl | (cases h; done) | skip
  rename_i op x pos
  cases op <;> first | rfl | cases h
def notSet : Expr → Bool
  | .Set .. => false
  | _ => true
theorem folded_not {a : Expr} {env : PySem.Env} (h : notSet a = true) (x : Value) : foldedSetIterable a env x = pure x := by
  cases a <;> first | rfl | cases h
def notComp : Expr → Bool
  | .ListComp .. => false
  | .SetComp .. => false
  | .DictComp .. => false
  | _ => true
theorem swaps_not {a : Expr} {t : Option Expr} {l : Nat} {env : PySem.Env} (h : notComp a = true) : swapsWith a t l env = pure false := by
  cases a <;> first | rfl | cases h
def notTup : Expr → Bool
  | .Tuple .. => false
  | _ => true
theorem stores_not {ts : List Expr} {a : Expr} {env : PySem.Env} (h : notTup a = true) : swappedStores ts a env = pure none := by
  cases a <;> first
    | (cases h; done)
    | (unfold swappedStores; rcases ts with _ | ⟨t, _ | ⟨u, r⟩⟩ <;> first | rfl | (cases t <;> rfl))
def notCall0 : Expr → Bool
  | .Call (.Name _ _) [] [] _ => false
  | _ => true
theorem base_not {a : Expr} {y : Str} {env : PySem.Env} (h : notCall0 a = true) : attributeBase a y env (eval a env) = eval a env := by
  cases a <;> first | rfl | skip
  rename_i f as kws pos
  cases f <;> first | rfl | skip
  cases as <;> first | rfl | skip
  cases kws <;> first | rfl | cases h
def notSlc : Expr → Bool
  | .Slice .. => false
  | _ => true
theorem ix_not {a : Expr} (h : notSlc a = true) : PlainIx a := by
  intro o i
  cases a <;> first | rfl | cases h
theorem behind_not {op : CmpOp} {a : Expr} (h : notSet a = true) : behindInMarks op a = false := by
  cases a <;> first | rfl | cases h
theorem last_not {o p : CmpOp} {a b : Expr} (h : notSet a = true) (h' : notSet b = true) : lastMarks [o, p] [a, b] = false := by
  cases a <;> first | (cases h; done) | (cases b <;> first | rfl | cases h')
def noStars : List Expr → Bool
  | [] => true
  | a :: as => notStar a && noStars as
theorem star_all : ∀ {as : List Expr} {env : PySem.Env}, noStars as = true → (starEach as env).any (·.1) = false
  | [], _, _ => rfl
  | a :: as, env, h => by
    simp only [noStars, Bool.and_eq_true] at h
    rw [star_cons h.1]
    simp [star_all h.2]
theorem back_any {as : List Expr} {env : PySem.Env} {pos : Pos} (h : noStars as = true) : (backTo pos (starEach as env)).any (·.1) = false := by
  have := star_all (env := env) h
  unfold backTo
  rw [List.any_map]
  exact this
theorem back_all {as : List Expr} {env : PySem.Env} {pos : Pos} (h : noStars as = true) : (backTo pos (starEach as env)).all (fun x => !x.1) = true := by
  have := back_any (env := env) (pos := pos) h
  rw [List.all_eq_not_any_not]
  simpa using this
theorem mth_eq {o : Expr} {y : Str} {apos pos : Pos} {as : List Expr} {env : PySem.Env} (h : notCall0 o = true) (hs : noStars as = true) (hn : as.length < 29) (hl : (apos.endLine == pos.line) = true) : ∃ pl : Sem Bool, eval (.Call (.Attribute o y apos) as [] pos) env = (do
      let ov ← eval o env
      standAt apos.atName
      let (g, first) ← holding [ov] (getMethod ov y pl)
      callWith pos g first (backTo pos (starEach as env)) (backToKw pos (keywordEach [] env))) := by
  refine ⟨do return (← importBound o env).getD true, ?_⟩
  have few : methodCallForm (as.length + ([] : List Keyword).length) (backTo pos (starEach as env)) (backToKw pos (keywordEach [] env)) = true := by
    unfold methodCallForm
    rw [back_all hs]
    simp [backToKw, keywordEach]
    omega
  show (do
    let ov ← attributeBase o y env (eval o env)
    standAt apos.atName
    methodCall o y apos pos env ov (as.length + ([] : List Keyword).length) (backTo pos (starEach as env)) (backToKw pos (keywordEach [] env))) = _
  rw [base_not h]
  unfold methodCall
  rw [few]
  unfold calleeOf methodCallPos
  simp only [if_true, hl, Bool.or_true, pure_bind]
end Mi

set_option Elab.async false
set_option linter.all false
set_option maxRecDepth 100000
set_option maxHeartbeats 4000000
/-! Mi, part 29: try with clauses, each with a name or without. -/
namespace Mi
open PySem PySem.Spec PyProof.Rows L2
/-- a clause: the class that it names, the slot of its name, what its suite does -/
structure Hc where
  c : Value
  o : Option Nat
  ts : Addr → Value → Option Addr → TS
/-- the ends behind a suite whose name goes -/
def Hc.en (h : Hc) (D : Ends) : Ends := match h.o with
  | none => D
  | some i => { nx := fun σ H => D.nx (σ.set i none) H, rt := D.rt, bk := fun σ H => D.bk (σ.set i none) H, ct := fun σ H => D.ct (σ.set i none) H }
def Hc.st (h : Hc) (a : Addr) (σ : L2.St) : L2.St := match h.o with
  | none => σ
  | some i => σ.set i (some (.ref a))
/-- the clauses asked in turn -/
def askAll (K : PySem.W.Frag) (Wo : WX) (D : Ends) : List Hc → WX
  | [] => Wo
  | h :: r => fun cls dx σ H => ∃ b, PySem.W.exmOne K cls h.c = some b ∧ (b = true → ∀ a, H a = none → h.ts a cls dx (h.en D) (h.st a σ) H) ∧ (b = false → askAll K Wo D r cls dx σ H)
/-- the suite of a clause, wherever the exception lies -/
def SuiteOk (X : Cx) (b : Stmt) (bs : List Stmt) (ts : Addr → Value → Option Addr → TS) : Prop :=
  ∀ (a : Addr) (oe : Obj) (cls : Value) (dx : Option Addr) (pn : List (Addr × Obj)), Zc cls dx oe → (∃ vs, oe.data = .fields vs) → PSs (X.suite a ((a, oe) :: pn)) (b :: bs) (ts a cls dx)
inductive ClOk (X : Cx) : List ExceptHandler → List Hc → Prop
  | nil : ClOk X [] []
  | only {x : Str} {c : Value} {ts : Addr → Value → Option Addr → TS} {b : Stmt} {bs : List Stmt} {p1 p2 : Pos} {hs : List ExceptHandler} {l : List Hc} (hc : Names X x c) (hb : SuiteOk X b bs ts) (r : ClOk X hs l) :
      ClOk X (.ExceptHandler (some (.Name x p1)) none (b :: bs) p2 :: hs) (⟨c, none, ts⟩ :: l)
  | named {x n : Str} {i : Nat} {c : Value} {ts : Addr → Value → Option Addr → TS} {b : Stmt} {bs : List Stmt} {p1 p2 : Pos} {hs : List ExceptHandler} {l : List Hc} (hc : Names X x c) (hi : X.N[i]? = some n) (hl : X.env.kindOf n = some .local) (hb : SuiteOk X b bs ts) (r : ClOk X hs l) :
      ClOk X (.ExceptHandler (some (.Name x p1)) (some n) (b :: bs) p2 :: hs) (⟨c, some i, ts⟩ :: l)
section
variable {X : Cx} {body : List Stmt} {h₀ : ExceptHandler} {hds : List ExceptHandler} {l : List Hc} {pos : Pos} {tb : WX → TS} {Wo : WX}
theorem try_mix (hs : X.stack = X.env :: X.outer) (hf : X.env.frame = some X.env.locals) (hN : X.N.Nodup) (tk : L2.Takes X Wo)
    (hb : ∀ (W : WX) (pn : List (Addr × Obj)) (xe : Value → Shared → Prop), L2.Takes (X.tr pn xe) W → PassesOwn (model X.prog X.w) X.A X.env xe → PSs (X.tr pn xe) body (tb W))
    (hh : ClOk X (h₀ :: hds) l) : PS X (.Try body (h₀ :: hds) [] [] pos) (fun D σ H => tb (askAll X.K Wo D l) D σ H) := by
  constructor
  intro pins s σ H D I h
  have ok := I.ok
  have frm : X.A.frames = some (X.env :: X.outer) := by rw [ok.frames, hs]
  apply wpAny_Try_except
  apply wpAny_mono ((hb (askAll X.K Wo D l) (X.pn ++ pins) (fun e t1 => wpAny (model X.prog X.w) X.A (noteFrame e X.env) (fun _ t2 => wpAny (model X.prog X.w) X.A (setFlight e none) (fun _ t3 =>
    wpAny (model X.prog X.w) X.A (handleBy e X.env (h₀ :: hds)) (SP X pins D) X.xe t3) X.xe t2) X.xe t1) ?thrown PassesOwn.looking).run [] s σ H D (I.toTry _) h) ?ends (fun _ _ z => z)
  case ends =>
    intro f s1 hsp
    match f, hsp with
    | .next, ⟨σ', H', J', q⟩ => exact wpAny_execs_nil ⟨σ', H', J'.ofTry ok, q⟩
    | .brk, ⟨σ', H', J', q⟩ => exact ⟨σ', H', J'.ofTry ok, q⟩
    | .cont, ⟨σ', H', J', q⟩ => exact ⟨σ', H', J'.ofTry ok, q⟩
    | .ret u, ⟨v, σ', H', J', r, q⟩ => exact ⟨v, σ', H', J'.ofTry ok, r, q⟩
  case thrown =>
    intro u s' xx
    obtain ⟨a, B, sI, pins', σ', H', cls, d, rfl, J', nb, up, sky, na, os, ag, w⟩ := xx
    have J : Inv X pins σ' H' sI := J'.ofTry ok
    have skyE : Sky B (X.env :: X.outer) a (Zc cls d) X.env.locals s'.heap := hs ▸ sky
    show wpAny (model X.prog X.w) X.A (noteFrame (.ref a) X.env) _ _ _
    refine Sky.land Zc.steady frm hf skyE fun h3 fl up3 => ?_
    have J3 : Inv X pins σ' H' { s' with heap := h3 } := J.landed nb fl.1 (up.trans up3) os ag
    obtain ⟨oe, vs, he, hz, hd⟩ := fl.there
    have nfr : a ∉ frs (X.env :: X.outer) := fun hm => by
      obtain ⟨_, o', e', hnf⟩ := fl.2.2.1.mem hm
      rw [he] at e'; cases e'
      exact hnf _ hd
    have nL : a ≠ X.env.locals := fun z => nfr (List.mem_filterMap.mpr ⟨X.env, List.mem_cons_self, by rw [hf, z]⟩)
    have nF : a ∉ X.fs := fun hm => by
      obtain ⟨e, he', q⟩ := List.mem_filterMap.mp hm
      exact nfr (List.mem_filterMap.mpr ⟨e, List.mem_cons_of_mem _ he', q⟩)
    have S3 := J3.suite he hd na nL nF
    have LT : PySem.W.Looks (model X.prog X.w) h3 (typeOf (.ref a)) cls := fun A Q E s k q => wpAny_typeOf_ref (k _ _ he) (by rw [hz.1]; exact q)
    have named : ∀ {x : Str} {c : Value} {np : Pos} {Q : Value → Shared → Prop} {E : Value → Shared → Prop}, Names X x c → Q c { s' with heap := h3 } → wpAny (model X.prog X.w) (X.A.mark (some (.ref a))) (eval (.Name x np) X.env) Q E { s' with heap := h3 } := fun {x c np Q E} hc q => by
      rcases hc with ⟨hg, hdb, hm | ⟨hm, hv, hnn⟩⟩
      · exact ld_glob (X := X.suite a ((a, oe) :: (X.pn ++ pins))) S3 hg hm q hdb
      · exact ld_blt (X := X.suite a ((a, oe) :: (X.pn ++ pins))) S3 hg hm hv q hnn hdb
    have into : ∀ {b : Stmt} {bs : List Stmt} {ts : Addr → Value → Option Addr → TS} {D' : Ends} {σ1 : L2.St} {s5 : Shared} {oe4 : Obj} {Q : Flow → Shared → Prop}, SuiteOk X b bs ts → Zc cls d oe4 → (∃ vs, oe4.data = .fields vs) → Inv (X.suite a ((a, oe4) :: (X.pn ++ pins))) [] σ1 H' s5 → ts a cls d D' σ1 H' →
        (∀ f s6, SP (X.suite a ((a, oe4) :: (X.pn ++ pins))) [] D' f s6 → Q f s6) → wpAny (model X.prog X.w) (X.suite a ((a, oe4) :: (X.pn ++ pins))).A (execs (b :: bs) X.env) Q (X.suite a ((a, oe4) :: (X.pn ++ pins))).xe s5 :=
      fun {b bs ts D' σ1 s5 oe4 Q} hsu hz4 hd4 S5 ht hq => wpAny_mono ((hsu a oe4 cls d (X.pn ++ pins) hz4 hd4).run [] s5 σ1 H' D' S5 ht) hq fun _ _ z => z
    have go : ∀ {hs' : List ExceptHandler} {l' : List Hc}, ClOk X hs' l' → askAll X.K Wo D l' cls d σ' H' → wpAny (model X.prog X.w) X.A (handleBy (.ref a) X.env hs') (SP X pins D) X.xe { s' with heap := h3 } := by
      intro hs' l' hk
      induction hk with
      | nil =>
        intro w
        apply wpAny_handleBy_nil
        obtain ⟨_, _, _, oe', vs', T, oT, ts', he', _, hd', h1, _⟩ := id fl
        unfold PySem.passOn
        refine wpAny_bind (wpAny_field he' hd' h1 ?_)
        rw [if_neg (show ¬ ((Value.ref T == Value.none) = true) from by simp)]
        have fin : wpAny (model X.prog X.w) X.A (setFlight (.ref a) X.env.frame) (fun _ s4 => wpAny (model X.prog X.w) X.A (throw (.ref a) : Sem Flow) (SP X pins D) X.xe s4) X.xe { s' with heap := h3 } := by
          rw [hf]
          refine HandSPX.setFlight_upZ fl fun h4 hh4 up4 => wpAny_throw (tk _ _ ?_)
          exact ⟨a, B, sI, pins, σ', H', cls, d, rfl, J, nb, (up.trans up3).trans up4, .inr (.inr (by rw [hs]; exact hh4)), na, os, ag, w⟩
        first
          | exact wpAny_bind (wpAny_pure (wpAny_bind fin))
          | exact wpAny_bind fin
      | @only x c ts b bs p1 p2 hs2 l2 hc hsu r ih =>
        rintro ⟨t, ht, yes, no⟩
        refine wpAny_handleBy_cons (codeAny_handlers_test ?_) (fun q => by cases q)
        have LM := PySem.W.exm_one (M := model X.prog X.w) (J3.kIn) LT ht
        refine named hc (LM.here ?_)
        match t, yes, no with
        | true, yes, _ =>
          apply codeAny_handlers_suite
          refine HandSPX.lands_againZ fl fun h4 fl4 up4 => ?_
          have J4 : Inv X pins σ' H' { s' with heap := h4 } := J.landed nb fl4.1 ((up.trans up3).trans up4) os ag
          obtain ⟨oe4, vs4, he4, hz4, hd4⟩ := fl4.there
          refine wpAny_mono (into hsu hz4 ⟨_, hd4⟩ (J4.suite he4 hd4 na nL nF) (yes rfl a na) fun f s6 q => q) (fun f s6 hsp => ?_) fun _ _ z => False.elim z
          match f, hsp with
          | .next, ⟨σ6, H6, S6, q⟩ => exact ⟨_, _, S6.unsuite ok, q⟩
          | .brk, ⟨σ6, H6, S6, q⟩ => exact ⟨_, _, S6.unsuite ok, q⟩
          | .cont, ⟨σ6, H6, S6, q⟩ => exact ⟨_, _, S6.unsuite ok, q⟩
          | .ret u, ⟨v6, σ6, H6, S6, rv, q⟩ => exact ⟨_, _, _, S6.unsuite ok, rv, q⟩
        | false, _, no =>
          show wpAny _ X.A (handleBy (.ref a) X.env hs2) _ _ _
          exact ih (no rfl)
      | @named x n i c ts b bs p1 p2 hs2 l2 hc hi hl hsu r ih =>
        rintro ⟨t, ht, yes, no⟩
        refine wpAny_handleBy_cons (codeAny_handlers_test ?_) (fun q => by cases q)
        have LM := PySem.W.exm_one (M := model X.prog X.w) (J3.kIn) LT ht
        refine named hc (LM.here ?_)
        match t, yes, no with
        | true, yes, _ =>
          apply codeAny_handlers_suite_as
          refine HandSPX.lands_againZ fl fun h4 fl4 up4 => ?_
          have J4 : Inv X pins σ' H' { s' with heap := h4 } := J.landed nb fl4.1 ((up.trans up3).trans up4) os ag
          obtain ⟨oe4, vs4, he4, hz4, hd4⟩ := fl4.there
          have S4 := J4.suite he4 hd4 na nL nF
          refine store_ok (X := X.suite a ((a, oe4) :: (X.pn ++ pins))) (v := .ref a) S4 hN hi (.inl hl) rfl (fun s5 S5 => ?_) (.inr hl)
          refine wpAny_mono (into hsu hz4 ⟨_, hd4⟩ S5 (yes rfl a na) fun f s6 q => q) (fun f s6 hsp => ?_) fun _ _ z => False.elim z
          have done : ∀ {σ6 : L2.St} {H6 : Hp} {Q : Shared → Prop}, Inv (X.suite a ((a, oe4) :: (X.pn ++ pins))) [] σ6 H6 s6 → (∀ s7, Inv X pins (σ6.set i none) H6 s7 → Q s7) →
              wpAny (model X.prog X.w) X.A (do bindName X.env n .none; unbindBehindTheSuite X.env n p2) (fun _ s7 => Q s7) X.xe s6 := fun {σ6 H6 Q} S6 hq => gone_ok (S6.unsuite ok) hN hi hl hq
          match f, hsp with
          | .next, ⟨σ6, H6, S6, q⟩ => exact done S6 fun s7 J7 => ⟨_, _, J7, q⟩
          | .brk, ⟨σ6, H6, S6, q⟩ => exact done S6 fun s7 J7 => ⟨_, _, J7, q⟩
          | .cont, ⟨σ6, H6, S6, q⟩ => exact done S6 fun s7 J7 => ⟨_, _, J7, q⟩
          | .ret u, ⟨v6, σ6, H6, S6, rv, q⟩ => exact done S6 fun s7 J7 => ⟨_, _, _, J7, rv, q⟩
        | false, _, no =>
          show wpAny _ X.A (handleBy (.ref a) X.env hs2) _ _ _
          exact ih (no rfl)
    exact go hh w
end
end Mi

set_option Elab.async false
set_option linter.all false
set_option maxRecDepth 100000
set_option maxHeartbeats 4000000
/-! Mi, part 30: an own exception's __init__: super().__init__(p, ..), then self.p = p for each. -/
namespace Mi
open PySem PySem.Spec PyProof.Rows L2
inductive NamesAre : List Expr → List Str → Prop
  | nil : NamesAre [] []
  | cons {x : Str} {p : Pos} {es : List Expr} {xs : List Str} (r : NamesAre es xs) : NamesAre (.Name x p :: es) (x :: xs)
inductive StoresAre : List Stmt → List Str → Prop
  | nil : StoresAre [] []
  | cons {x : Str} {a b c d : Pos} {sts : List Stmt} {xs : List Str} (r : StoresAre sts xs) : StoresAre (.Assign [.Attribute (.Name "self" a) x b] (.Name x c) d :: sts) (x :: xs)
/-- what the written part says of an own exception whose __init__ is of this form -/
structure XiF (P : Program) (K : PySem.W.Frag) (C fI : Addr) (xs : List Str) : Prop where
  ox : OexC K C
  fn : ∃ (name qual : Str) (params : Arguments) (scope : Scope) (dV kV doc pm ct oc : Value) (an od : Option Addr) (osl : Array (Option Value)) (cda cc : Addr) (sts : List Stmt) (e : Expr) (es : List Expr) (p0 p1 p2 p3 p4 : Pos),
    K.lookup fI = some ⟨oc, od, .func (PySem.W.ksFn name qual params (.Expr (.Call (.Attribute (.Call (.Name "super" p0) [] [] p1) "__init__" p2) (e :: es) [] p3) p4 :: sts) scope dV kV doc pm an (.ref cda) ct cc), osl⟩ ∧
    PySem.W.codeIn K (.ref cda) qual = true ∧ NamesAre (e :: es) xs ∧ StoresAre sts xs ∧
    (p2.endLine == p3.line) = true ∧ (∃ ar, (params.posonlyargs ++ params.args).head? = some ar ∧ ar.arg = ("self" : Str)) ∧
    (∀ (s : Shared) (u : Value) (us : List Value), us.length = xs.length → BindsTo s (PySem.W.ksFn name qual params (.Expr (.Call (.Attribute (.Call (.Name "super" p0) [] [] p1) "__init__" p2) (e :: es) [] p3) p4 :: sts) scope dV kV doc pm an (.ref cda) ct cc) ⟨u :: us, []⟩ (("self", u) :: xs.zip us)) ∧
    (∃ ccl cdd vs ccs file tf, K.lookup cda = some ⟨ccl, cdd, .fields vs, ccs⟩ ∧ vs[2]? = some (.str file tf) ∧ ((P.main.file : Str) == file) = true) ∧
    (∃ cl cld csl, K.lookup cc = some ⟨cl, cld, .cell (some (.ref C)), csl⟩) ∧
    scope.names.lookup ("super" : Str) = some .globalImplicit ∧ scope.names.lookup ("__class__" : Str) = some .free ∧ scope.names.lookup ("self" : Str) = some .local ∧ (∀ x ∈ xs, scope.names.lookup x = some .local) ∧
    scope.kind = .function ∧ scope.isCoroutine = false ∧ scope.isGenerator = false ∧ (∀ y ∈ scope.names, y.2 ≠ .cell)
  nd : (("self" : Str) :: xs).Nodup
  dbg : ∀ x ∈ xs, (x == ("__debug__" : Str)) = false
  top : (P.main.scope.names.lookup ("super" : Str)).isSome = false
  sup : PySem.W.nsIn K mainGlobals "super" = some none
  tp : PySem.W.nsIn K cStatics "thirdparty.any" = some none
  me : PySem.W.mroIn K C (.ref C) = some true
  ini : PySem.W.ks_superIn K C C "__init__" = some (some (.builtin "ValueError.__init__"))
  isV : PySem.W.subIn K (.ref C) (.type "ValueError") = some true
  exI : PySem.W.excInitIn K C [.type "ValueError", .type "Exception", .type "BaseException", .type "object"] "ValueError.__new__" = true
  noA : ∀ x ∈ xs, PySem.W.findIn K (.ref C) x = some none
  few : xs.length ≤ 28
theorem NamesAre.stars {es : List Expr} {xs : List Str} (h : NamesAre es xs) : noStars es = true := by
  induction h with
  | nil => rfl
  | cons r ih => simp [noStars, notStar, ih]
theorem NamesAre.len {es : List Expr} {xs : List Str} (h : NamesAre es xs) : es.length = xs.length := by
  induction h with
  | nil => rfl
  | cons r ih => simp [ih]
theorem sup_eq {o : Expr} {y : Str} {apos pos : Pos} {as : List Expr} {env : PySem.Env} (hs : noStars as = true) (hn : as.length < 29) (hl : (apos.endLine == pos.line) = true) : ∃ pl : Sem Bool, eval (.Call (.Attribute o y apos) as [] pos) env = (do
      let ov ← attributeBase o y env (eval o env)
      standAt apos.atName
      let (g, first) ← holding [ov] (getMethod ov y pl)
      callWith pos g first (backTo pos (starEach as env)) []) := by
  refine ⟨do return (← importBound o env).getD true, ?_⟩
  have few : methodCallForm (as.length + ([] : List Keyword).length) (backTo pos (starEach as env)) (backToKw pos (keywordEach [] env)) = true := by
    unfold methodCallForm
    rw [back_all hs]
    simp [backToKw, keywordEach]
    omega
  show (do
    let ov ← attributeBase o y env (eval o env)
    standAt apos.atName
    methodCall o y apos pos env ov (as.length + ([] : List Keyword).length) (backTo pos (starEach as env)) (backToKw pos (keywordEach [] env))) = _
  unfold methodCall
  rw [few]
  unfold calleeOf methodCallPos
  simp only [if_true, hl, Bool.or_true, pure_bind]
  rfl
/-! ### lookups -/
theorem lookup_of_mem {α : Type} : ∀ {l : List (Str × α)} {x : Str} {u : α}, (l.map (·.1)).Nodup → (x, u) ∈ l → l.lookup x = some u
  | [], x, u, _, h => by cases h
  | (y, v) :: l, x, u, nd, h => by
    rw [List.lookup_cons]
    rw [List.map_cons, List.nodup_cons] at nd
    rcases List.mem_cons.mp h with e | h'
    · cases e; simp
    · have : x ≠ y := fun z => by subst z; exact nd.1 (List.mem_map.mpr ⟨_, h', rfl⟩)
      have e : (x == y) = false := by simpa using this
      rw [e]
      exact lookup_of_mem nd.2 h'
theorem lookup_rev {α : Type} {l : List (Str × α)} {x : Str} {u : α} (nd : (l.map (·.1)).Nodup) (h : (x, u) ∈ l) : l.reverse.lookup x = some u :=
  lookup_of_mem (by rw [List.map_reverse]; exact (List.reverse_perm _).nodup_iff.mpr nd) (List.mem_reverse.mpr h)
section
variable {P : Program} {w : World} {A : Around} {E : Value → Shared → Prop} {s : Shared} {env : PySem.Env} {m : Str → Option Value}
/-- names as arguments -/
theorem names_ok (hk : env.scope.kind = .function) (hn : s.heap.Ns env.locals m) : ∀ {es : List Expr} {xs : List Str} {us : List Value} {pos : Pos} {Q : List Value → Shared → Prop}, NamesAre es xs → us.length = xs.length → (∀ x ∈ xs, env.kindOf x = some .local) → (∀ x ∈ xs, (x == ("__debug__" : Str)) = false) → (∀ q ∈ xs.zip us, m q.1 = some q.2) → Q us s →
    wpAny (model P w) A (spliced (backTo pos (starEach es env))) Q E s := by
  intro es xs us pos Q h
  induction h generalizing us Q with
  | nil =>
    intro hl _ _ _ q
    have : us = [] := List.length_eq_zero_iff.mp hl
    subst this
    exact Calls.spliced_nil q
  | @cons x p es xs r ih =>
    intro hl hl2 hd hm q
    match us, hl with
    | u :: us, hl =>
      show wpAny _ _ (spliced ((false, eval (.Name x p) env) :: backTo pos (starEach es env))) _ _ s
      refine Calls.spliced_cons (wpAny_Name (wpAny_loadName_local hk (hl2 x (by simp)) hn (hm (x, u) (by simp)) ?_) (hd x (by simp)))
      exact ih (us := us) (by simpa using hl) (fun y hy => hl2 y (by simp [hy])) (fun y hy => hd y (by simp [hy])) (fun p hp => hm p (by simp [hp])) q
end
section
variable {P : Program} {w : World} {K : PySem.W.Frag} {C fI : Addr} {xs : List Str}
/-- the fields stored so far, at the exception's dict -/
def StoredAt (hp : Heap) (e C L : Addr) (m : Str → Option Value) (d : Option Addr) (n : Str → Option Value) (k : Nat) (h : Heap) : Prop :=
  (∀ b o, hp.get? b = some o → h.get? b = some o) ∧ h.Ns L m ∧ (∃ t1 : Addr, h.get? e = some ({ cls := .ref C, dict := d, data := .fields #[.ref t1, .none, .none, .none, .bool false, .none] } : Obj)) ∧
  (match d with
    | none => n = fun _ => none
    | some dx => h.Ns1 dx n ∧ hp.get? dx = none ∧ dx ≠ e ∧ dx ≠ L ∧ ∃ ys : List Str, Within n ys ∧ ys.length ≤ k)
theorem stores_ok {A : Around} {E : Value → Shared → Prop} {env : PySem.Env} {hp : Heap} {e L : Addr} {m : Str → Option Value} (ox : OexC K C) (X₀ : K.In hp) (hk : env.scope.kind = .function) (hL : env.locals = L) (hself : env.kindOf "self" = some .local) (hms : m "self" = some (.ref e)) (he : hp.get? e = none) (heL : e ≠ L) (hLn : hp.get? L = none) :
    ∀ {sts : List Stmt} {ys : List Str} {us : List Value} {d : Option Addr} {n : Str → Option Value} {k : Nat} {s : Shared} {Q : Flow → Shared → Prop}, StoresAre sts ys → us.length = ys.length → (∀ x ∈ ys, env.kindOf x = some .local) → (∀ x ∈ ys, (x == ("__debug__" : Str)) = false) → (∀ q ∈ ys.zip us, m q.1 = some q.2) → (∀ x ∈ ys, PySem.W.findIn K (.ref C) x = some none) → k + ys.length ≤ 900 →
      StoredAt hp e C L m d n k s.heap → (∀ (d' : Option Addr) (s' : Shared), (ys ≠ [] → d'.isSome = true) → s'.os = s.os → s'.gens = s.gens → StoredAt hp e C L m d' ((ys.zip us).foldl (fun n q y => if y = q.1 then some q.2 else n y) n) (k + ys.length) s'.heap → (ys = [] → d' = d) → Q .next s') →
      wpAny (model P w) A (execs sts env) Q E s := by
  intro sts ys us d n k s Q h
  induction h generalizing us d n k s with
  | nil =>
    intro hl _ _ _ _ _ st q
    have : us = [] := List.length_eq_zero_iff.mp hl
    subst this
    exact wpAny_execs_nil (q d s (fun z => absurd rfl z) rfl rfl st fun _ => rfl)
  | @cons x pa pb pc pd sts ys r ih =>
    intro hl hl2 hd hm hno hfew st q
    match us, hl with
    | u :: us, hl =>
      have mx := hm (x, u) (by simp)
      obtain ⟨k0, k1, ⟨t1, k2⟩, k3⟩ := st
      refine wpAny_execs_cons (plainObj_wpAny_Assign_Attribute (wpAny_Name (wpAny_loadName_local hk (hl2 x (by simp)) (by rw [hL]; exact k1) mx (wpAny_Name (wpAny_loadName_local hk hself (by rw [hL]; exact k1) hms ?_) (by decide))) (hd x (by simp))))
      have X := X₀.keeps k0
      obtain ⟨nm, q0, N, bs, bm, sn, sub, ab, col, dd, c0, c1, c2, c3, c5, hC, hbm⟩ := ox.cls
      have hcl : PySem.W.clsIn K C = some { name := nm, bases := bs, mro := .ref C :: bm, ns := N, qualname := q0, hasDict := true, slotNames := sn, subclasses := sub, abstract := ab, collection := col, hasDel := false } := by unfold PySem.W.clsIn; rw [hC] <;> rfl
      have next : ∀ (d' : Addr) (s' : Shared), s'.os = s.os → s'.gens = s.gens → StoredAt hp e C L m (some d') (fun y => if y = x then some u else n y) (k + 1) s'.heap → wpAny (model P w) A (execs sts env) Q E s' := fun d' s' o1 o2 st' => by
        refine ih (us := us) (by simpa using hl) (fun y hy => hl2 y (by simp [hy])) (fun y hy => hd y (by simp [hy])) (fun p hp => hm p (by simp [hp])) (fun y hy => hno y (by simp [hy])) (by simp at hfew; omega) st' fun d'' s'' a1 a2 a3 a4 a5 => ?_
        refine q d'' s'' (fun _ => ?_) (a2.trans o1) (a3.trans o2) (by rw [List.length_cons, ← Nat.add_assoc, Nat.add_right_comm]; exact a4) (fun z => by cases z)
        cases ys with
        | nil => rw [a5 rfl]; rfl
        | cons y ys => exact a1 (by simp)
      obtain ⟨hh, g, dr, tk, os⟩ := s
      match d, k2, k3 with
      | none, k2, k3 =>
        obtain rfl := k3
        refine PySem.W.set_plain X (ox := { cls := .ref C, dict := none, data := .fields #[.ref t1, .none, .none, .none, .bool false, .none] }) (od := none) ⟨k2, rfl, rfl, trivial⟩ ox.sa ?_
        refine PySem.HandSPX.exc_osa X k2 hcl (show PySem.HandSPX.refsVE (.ref C :: bm) = true from hbm) rfl (hno x (by simp)) (fun h' tk' dx kk dn dne hx hn => ?_)
        refine next dx _ rfl rfl ⟨fun b o z => kk b o (fun y => by rw [y, he] at z; cases z) (k0 b o z), ?_, ⟨t1, hx⟩, ?_, ?_, dne, ?_, [x], ?_, ?_⟩
        · obtain ⟨oL, es, ep, z1, z2⟩ := k1
          exact ⟨oL, es, ep, kk _ _ (Ne.symm heL) z1, z2⟩
        · exact hn
        · cases z : hp.get? dx with
          | none => rfl
          | some o => exact absurd (Heap.lt_size (k0 _ _ z)) (Nat.not_lt.mpr dn)
        · intro z
          obtain ⟨oL, es, ep, z1, z2⟩ := k1
          rw [z] at dn
          exact absurd (Heap.lt_size z1) (Nat.not_lt.mpr dn)
        · exact Within.cons x u (fun y hy => absurd rfl hy)
        · show 1 ≤ k + 1; omega
      | some dx, k2, k3 =>
        obtain ⟨hns, hdx, hde, hdL, zs, hw, hz⟩ := k3
        obtain ⟨oD, _, _, hoD, _, _⟩ := hns.count hw
        refine PySem.W.set_plain X (ox := { cls := .ref C, dict := some dx, data := .fields #[.ref t1, .none, .none, .none, .bool false, .none] }) (od := some oD) ⟨k2, rfl, rfl, hoD⟩ ox.sa ?_
        refine PySem.OEX.osa_old X k2 hns hw (by simp at hfew; omega) hcl (show PySem.HandSPX.refsVE (.ref C :: bm) = true from hbm) rfl (hno x (by simp)) (fun h' tk' kk hn => ?_)
        refine next dx _ rfl rfl ⟨fun b o z => kk b o (fun y => by rw [y, hdx] at z; cases z) (k0 b o z), ?_, ⟨t1, kk _ _ (Ne.symm hde) k2⟩, hn, hdx, hde, hdL, x :: zs, Within.cons x u hw, by rw [List.length_cons]; omega⟩
        obtain ⟨oL, es, ep, z1, z2⟩ := k1
        exact ⟨oL, es, ep, kk _ _ (Ne.symm hdL) z1, z2⟩

/-- the dict's fields behind __init__ -/
def fieldsOf (xs : List Str) (us : List Value) : Str → Option Value := (xs.zip us).foldl (fun n q y => if y = q.1 then some q.2 else n y) (fun _ => none)
theorem xi_run (XF : XiF P K C fI xs) (hne : xs ≠ []) {A : Around} (hroom : A.depth < recursionLimit) {hp : Heap} {us : List Value} {e t0 : Addr} {s : Shared} {R : Result → Shared → Prop} {mg mb : Str → Option Value} (X₀ : K.In hp) (hg : hp.Ns mainGlobals mg) (hb : hp.Ns builtinsNs mb) (hbb : ∀ x : Str, x ≠ "__name__" → mb x = bootBuiltins x) (hlim : hp.NoLimit)
    (kp : ∀ b o, hp.get? b = some o → s.heap.get? b = some o) (he : s.heap.get? e = some ({ cls := .ref C, data := .fields #[.ref t0, .none, .none, .none, .bool false, .none] } : Obj)) (hen : hp.get? e = none) (hsz : hp.objs.size ≤ s.heap.objs.size) (hl : us.length = xs.length)
    (h : ∀ (s' : Shared) (t1 dx : Addr), s'.os = s.os → s'.gens = s.gens → (∀ b o, hp.get? b = some o → s'.heap.get? b = some o) → s'.heap.get? e = some ({ cls := .ref C, dict := some dx, data := .fields #[.ref t1, .none, .none, .none, .bool false, .none] } : Obj) → s'.heap.Ns1 dx (fieldsOf xs us) → hp.get? dx = none → dx ≠ e → R (.ok (.ret .none)) s') :
    codeAny (model P w) A (.call (.ref fI) ⟨.ref e :: us, []⟩) R s := by
  obtain ⟨name, qual, params, scope, dV, kV, doc, pm, ct, oc, an, od, osl, cda, cc, sts, e1, es, p0, p1, p2, p3, p4, lk, hcd, na, sa, hline, ⟨ar, har, hself⟩, hbind, ⟨ccl, cdd, vs, ccs, file, tf, hcda, hvs, hfile⟩, ⟨cl, cld, csl, hcc⟩, hks, hkc, hka, hkx, hk, hco, hgen, hcell⟩ := XF.fn
  have X := X₀.keeps kp
  have nd : (((("self" : Str), Value.ref e) :: xs.zip us).map (·.1)).Nodup := by
    rw [List.map_cons, List.map_fst_zip (by omega)]; exact XF.nd
  have hme : ∀ {x : Str} {u : Value}, (x, u) ∈ (("self" : Str), Value.ref e) :: xs.zip us → (((("self" : Str), Value.ref e) :: xs.zip us).reverse).lookup x = some u := fun q => lookup_rev nd q
  refine ks_codeAny_call_defAt (binds := (("self" : Str), .ref e) :: xs.zip us) hroom (X _ _ lk) rfl (hlim.keeps kp) (PySem.W.codeRec_of X hcd) rfl (hbind s _ _ hl) hcell (fun q hq => ?_) (fun h₁ hns k1 => ?_) hco hgen hk
  · rcases List.mem_cons.mp hq with z | z
    · rw [z]; exact hka
    · exact hkx _ (List.of_mem_zip z).1
  show _root_.PySem.wpAt (model P w) (A.deeper (PySem.W.ksEnv qual scope s.heap.objs.size fI (.ref cda) cc)) (.func _ (PySem.W.ksEnv qual scope s.heap.objs.size fI (.ref cda) cc)) (execs _ (PySem.W.ksEnv qual scope s.heap.objs.size fI (.ref cda) cc)) _ _ _
  generalize hL : s.heap.objs.size = L at *
  have heL : e ≠ L := fun z => by rw [z, ← hL] at he; exact absurd (Heap.lt_size he) (Nat.lt_irrefl _)
  have hLn : hp.get? L = none := by
    cases z : hp.get? L with
    | none => rfl
    | some o => exact absurd (Heap.lt_size (kp _ _ z)) (by rw [hL]; exact Nat.lt_irrefl _)
  have F1 : Fr hp L h₁ (fun x => (((("self" : Str), Value.ref e) :: xs.zip us).reverse).lookup x) := ⟨hns, fun b o z => k1 b o (kp b o z), by omega⟩
  have N1 : News hp L h₁ [(e, PySem.W.excObj C t0 none .none)] := fun p hp' => by
    rw [List.mem_singleton.mp hp']
    exact ⟨k1 _ _ he, heL, hen⟩
  obtain ⟨cdD, hD⟩ : ∃ cd, PySem.W.clsIn K C = some cd := by
    obtain ⟨nm, q0, N, bs, bm, sn, sub, ab, col, dd, c0, c1, c2, c3, c5, hC, hbm⟩ := XF.ox.cls
    exact ⟨_, by unfold PySem.W.clsIn; rw [hC]⟩
  obtain ⟨oD, hD1, hD2⟩ : ∃ oD, h₁.get? C = some oD ∧ oD.data = .cls cdD := by
    have hD' := hD
    unfold PySem.W.clsIn at hD'
    split at hD'
    · rename_i c d cd' sl ho
      cases hD'
      exact ⟨_, (X₀.keeps F1.keep) _ _ ho, rfl⟩
    · cases hD'
  have X1 := X₀.keeps F1.keep
  obtain ⟨pl, hev⟩ := sup_eq (o := .Call (.Name "super" p0) [] [] p1) (y := "__init__") (env := PySem.W.ksEnv qual scope L fI (.ref cda) cc) na.stars (by have := XF.few; have := na.len; omega) hline
  have hqt : interactive (PySem.W.ksEnv qual scope L fI (.ref cda) cc) = false := by
    show (scope.kind == .module && _) = false
    rw [hk]; rfl
  refine ks_wpAt_execs_cons (ks_wpAt_Expr_any (hi := hqt) (ks_wpAt_MethodCall (pl := pl) (ks_wpAt_super_base (env := PySem.W.ksEnv qual scope L fI (.ref cda) cc) hks hkc (by decide) rfl (X1 _ _ lk) rfl har rfl (X1 _ _ hcda) rfl hvs hfile XF.top ?_) hev))
  refine PySem.W.ks_loadName_global hk hks (Calls.loadGlobal_builtin (env := PySem.W.ksEnv qual scope L fI (.ref cda) cc) (hg.keeps F1.keep) (PySem.W.mg_none_of X₀ hg XF.sup) (hb.keeps F1.keep) ((hbb _ (by decide +kernel)).trans PyProof.Rows.Boot.«super») ⟨rfl, ?_⟩)
  refine wpAny_loadName_free hk hkc rfl ⟨_, X1 _ _ hcc, rfl⟩ ?_
  refine wpAny_loadName_local (v := .ref e) hk (by rw [hself]; exact hka) F1.ns (by rw [hself]; exact hme List.mem_cons_self) ?_
  refine ks_wpAny_isType_cls hD1 hD2 ⟨rfl, ?_⟩
  have I1 : PySem.W.InstAt h₁ e (PySem.W.excObj C t0 none .none) C none := ⟨k1 _ _ he, rfl, rfl, trivial⟩
  refine ks_wpAny_call_super hD1 hD2 (k1 _ _ he) rfl (fun c z => by cases z) (PySem.W.looks_mroIn X1 XF.me) (fun h2 e2 k2 => ?_)
  obtain ⟨F2, N2, l2⟩ := PySem.W.ks_newsPush (s := ⟨h₁, s.gens, s.drawn, s.toks + ((("self" : Str), Value.ref e) :: xs.zip us).length, s.os⟩) F1 N1 rfl e2 k2
  have I2 : PySem.W.InstAt h2 e (PySem.W.excObj C t0 none .none) C none := ⟨k2 _ _ (k1 _ _ he), rfl, rfl, trivial⟩
  refine PySem.W.kxs_method (s := ⟨h2, s.gens, s.drawn, s.toks + ((("self" : Str), Value.ref e) :: xs.zip us).length, s.os⟩) PySem.W.kxs_ValueError F2 X₀ N2 (by simp) I2 XF.tp XF.ini XF.isV (by decide) fun q h3 F3 N3 l3 => ?_
  refine PySem.W.kxs_callWith1 N3 (by simp) (names_ok (m := fun x => ((((("self" : Str), Value.ref e) :: xs.zip us).reverse).lookup x)) hk F3.ns na hl hkx XF.dbg (fun p hp' => hme (List.mem_cons_of_mem _ hp')) ⟨PySem.W.kxs_at N3 List.mem_cons_self, ?_⟩)
    (by have := na.stars; simp only [noStars, Bool.and_eq_true] at this; exact star_cons this.1) (back_any (by have := na.stars; simp only [noStars, Bool.and_eq_true] at this; exact this.2))
  have hq3 : ∀ p ∈ [((e : Addr), PySem.W.excObj C t0 none .none)], p.1 ≠ h₁.objs.size := fun p hp' => Nat.ne_of_lt (l2 p hp')
  have u : PySem.W.UpdF e (PySem.W.excObj C t0 none .none) [(q, PySem.W.kxs_mw "ValueError.__init__" e), (h₁.objs.size, PySem.W.ks_superObj C e C), (e, PySem.W.excObj C t0 none .none)] (fun o => [(q, PySem.W.kxs_mw "ValueError.__init__" e), (h₁.objs.size, PySem.W.ks_superObj C e C), (e, o)]) :=
    .tail (Nat.ne_of_gt (l3 (e, PySem.W.excObj C t0 none .none) (by simp))) (.tail (Ne.symm (hq3 _ List.mem_cons_self)) (.head (fun _ z => by cases z)))
  refine PySem.W.kxs_call F3 X₀ N3 F.excBase_ValueError XF.exI List.mem_cons_self u (by rw [hl, sizeLine_eq]; have := XF.few; omega) fun t4 h4 F4 N4 l4 => ?_
  refine wpAt_of_wpAny ?_
  have e4 := (N4 (e, PySem.W.excObj C t4 none .none) (by simp)).1
  refine wpAny_mono (stores_ok (L := L) (env := PySem.W.ksEnv qual scope L fI (.ref cda) cc) (m := fun x => ((((("self" : Str), Value.ref e) :: xs.zip us).reverse).lookup x)) (d := none) (n := fun _ => none) (k := 0) (Q := fun f s' => ∃ (d' : Option Addr), f = .next ∧ (d'.isSome = true) ∧ s'.os = s.os ∧ s'.gens = s.gens ∧ StoredAt hp e C L (fun x => ((((("self" : Str), Value.ref e) :: xs.zip us).reverse).lookup x)) d' (fieldsOf xs us) (0 + xs.length) s'.heap) (E := fun _ _ => False) XF.ox X₀ hk rfl hka (hme List.mem_cons_self) hen heL hLn sa hl hkx XF.dbg (fun p hp' => hme (List.mem_cons_of_mem _ hp')) XF.noA (by have := XF.few; omega) ⟨F4.keep, F4.ns, ⟨t4, e4⟩, rfl⟩ fun d' s' a1 a2 a3 a4 _ => ⟨d', rfl, a1 hne, a2, a3, a4⟩) (fun f s' hq => ?_) (fun _ _ z => z.elim)
  obtain ⟨d', rfl, hd, o1, o2, st⟩ := hq
  match d', hd, st with
  | some dx, _, ⟨s1, s2, ⟨t1, s3⟩, s4, s5, s6, s7, s8⟩ => exact h s' t1 dx o1 o2 s1 s3 s4 s5 s6
end
end Mi

set_option Elab.async false
set_option linter.all false
set_option maxRecDepth 100000
set_option maxHeartbeats 4000000
/-! Mi, part 31: raise C(e, ..) of an own exception. -/
namespace Mi
open PySem PySem.Spec PyProof.Rows L2
theorem fields_look : ∀ (l : List (Str × Value)) (n : Str → Option Value) (y : Str), (l.map (·.1)).Nodup → l.foldl (fun n q y => if y = q.1 then some q.2 else n y) n y = match l.lookup y with
    | some u => some u
    | none => n y
  | [], n, y, _ => rfl
  | (x, u) :: l, n, y, nd => by
    rw [List.map_cons, List.nodup_cons] at nd
    rw [List.foldl_cons, fields_look l _ y nd.2, List.lookup_cons]
    by_cases h : y = x
    · subst h
      have hn : l.lookup y = none := by
        cases e : l.lookup y with
        | none => rfl
        | some v => exact absurd (List.mem_map.mpr ⟨_, PySem.mem_of_lookup e, rfl⟩) nd.1
      rw [hn]; simp
    · have e : (y == x) = false := by simpa using h
      rw [e]
      simp [h]
theorem rel_fields : ∀ {xs : List Str} {vs : List V} {us : List Value}, Vals vs us → ∀ y : Str, RelO ((xs.zip vs).lookup y) ((xs.zip us).lookup y)
  | [], _, _, _, _ => trivial
  | x :: xs, [], us, r, y => by
    have : us = [] := List.length_eq_zero_iff.mp (by have := r.length; simpa using this.symm)
    subst this; trivial
  | x :: xs, v :: vs, us, r, y => by
    cases r with
    | cons r1 r2 =>
      rw [List.zip_cons_cons, List.zip_cons_cons, List.lookup_cons, List.lookup_cons]
      cases e : y == x with
      | true => exact r1
      | false => exact rel_fields r2 y
def tXi (C : Addr) (xs : List Str) (ta : TA) : L2.St → Hp → XK → Prop := fun σ H Q => ta σ H fun vs H1 => vs.length = xs.length ∧ ∀ d, H1 d = none → Q (.ref C) (some d) (upd H1 d (.xd (xs.zip vs)))
section
variable {X : Cx} {e : Expr} {es : List Expr} {ta : TA} {p pos : Pos}
theorem pmk_xi {x : Str} {C fI : Addr} {xs : List Str} {k : Nat} (XF : XiF X.prog X.K C fI xs) (hne : xs ≠ []) (iC : PySem.W.findIn X.K (.ref C) "__init__" = some (some (.ref fI))) (tI : PySem.W.typeIn X.K (.ref fI) = some (.type "function"))
    (hr : Room (k + 1) X.A) (hg : Gl X x) (hm : X.mg x = some (.ref C)) (ha : PA X (e :: es) ta)
    (hdb : (x == ("__debug__" : Str)) = false) (he : starEach (e :: es) X.env = (false, eval e X.env) :: starEach es X.env) (hpl : (backTo pos (starEach es X.env)).any (·.1) = false) :
    PMk X (.Call (.Name x p) (e :: es) [] pos) (tXi C xs ta) := by
  intro pins s σ H Q I h
  obtain ⟨nm, q, N, bs, bm, sn, sub, ab, col, dd, k0, k1, k2, k3, k5, hC, hbm⟩ := XF.ox.cls
  refine wpAny_Call_Name_kw (ld_glob I hg hm ?_ hdb)
  refine PySem.W.callWith_K (h₀ := X.base) I.ok.mod.kin XF.ox.kC (thn (ha.run pos pins s σ H _ I h) fun us s1 ⟨vs, H1, I1, r1, hz, q1⟩ => ⟨I1.kIn, ?_⟩) he hpl
  show wpAny _ _ (call (.ref C) us) _ _ _
  obtain ⟨hp, g, dr, tk, os⟩ := s1
  have hlu : us.length = xs.length := by rw [← hz]; exact r1.length.symm
  have hus : us.length ≤ sizeLine := by have := XF.few; have e := sizeLine_eq; omega
  have kk : ∀ b o, hp.get? b = some o → ((hp.push (PySem.W.kdv_tup us)).push (PySem.HandSPX.excO C hp.objs.size)).get? b = some o := fun b o e => Heap.get?_push_of_some _ (Heap.get?_push_of_some _ e)
  have hget : ((hp.push (PySem.W.kdv_tup us)).push (PySem.HandSPX.excO C hp.objs.size)).get? (hp.objs.size + 1) = some (PySem.HandSPX.excO C hp.objs.size) := by heap_get
  have hen : hp.get? (hp.objs.size + 1) = none := by
    cases z : hp.get? (hp.objs.size + 1) with
    | none => rfl
    | some o => exact absurd (Heap.lt_size z) (Nat.not_lt.mpr (Nat.le_succ _))
  have hn : H1 (hp.objs.size + 1) = none := I1.hok.fresh (Nat.le_succ _)
  have MD := I1.ok.mod
  obtain ⟨mb, hmb, hbb⟩ := MD.blt
  refine wpAny_call (PySem.HandSPX.call_own F.excBase_ValueError (fun Y => PySem.HandSPX.refsVE_contains Y bm hbm) (I1.kIn _ _ hC) (PySem.W.looks_findIn I1.kIn iC) (fun self => PySem.W.bind_fn I1.kIn self tI) hus
    (xi_run XF hne (hr.make C us []).depth (hp := hp) (t0 := hp.objs.size) I1.kIn (MD.glob.keeps I1.bk) (hmb.keeps I1.bk) hbb (MD.nolimit.keeps I1.bk) kk hget hen (by rw [Heap.size_push, Heap.size_push]; omega) hlu (fun s' t1 dx o1 o2 kp' he' hns hdx hde => ?_)))
  obtain ⟨h2, g2, d2, t2, os2⟩ := s'
  have hdn : H1 dx = none := by
    cases z : H1 dx with
    | none => rfl
    | some u =>
      obtain ⟨w, hw⟩ := objOk_get (I1.hok dx u z)
      rw [hdx] at hw; cases hw
  have nd : ((xs.zip us).map (·.1)).Nodup := by
    rw [List.map_fst_zip (by omega)]
    have := XF.nd
    rw [List.nodup_cons] at this
    exact this.2
  have rel : ∀ f, RelO ((xs.zip vs).lookup f) (fieldsOf xs us f) := fun f => by
    unfold fieldsOf
    rw [fields_look _ _ f nd]
    have := rel_fields (xs := xs) r1 f
    cases z : (xs.zip us).lookup f with
    | none => rw [z] at this; exact this
    | some u => rw [z] at this; exact this
  have ne1 : ∀ {b : Addr} {o : Obj}, hp.get? b = some o → b ≠ dx := fun {b o} z y => by rw [y, hdx] at z; cases z
  have ne2 : ∀ {b : Addr} {o : Obj}, hp.get? b = some o → b ≠ hp.objs.size + 1 := fun {b o} z y => by rw [y, hen] at z; cases z
  have hde' : hp.objs.size + 1 ≠ dx := Ne.symm hde
  have un : Un (frs X.stack) [] (upd H1 (hp.objs.size + 1) (exo (hp.objs.size + 1) C none)) (upd (upd H1 dx (exd dx (xs.zip vs))) (hp.objs.size + 1) (exo (hp.objs.size + 1) C (some dx))) hp h2 := {
    keep := fun b o z _ _ _ => kp' b o z
    slot := fun b o z _ _ _ => ⟨o.slots, kp' b o z⟩
    free := fun b o z n _ => by
      rw [upd_ne (ne2 z)] at n ⊢
      rw [upd_ne (ne1 z)]; exact n
    there := fun b o z _ => ⟨o, kp' b o z⟩
    tups := fun b ys z => by
      by_cases hb : b = hp.objs.size + 1
      · rw [hb, upd_same] at z; cases (Option.some.inj z : exo _ _ _ = HO.tup ys)
      · rw [upd_ne hb] at z ⊢
        rw [upd_ne (ne_of_none z hdn)]; exact z
    frzs := fun b o v z => by
      by_cases hb : b = hp.objs.size + 1
      · rw [hb, upd_same] at z; cases (Option.some.inj z : exo _ _ _ = HO.frz o v)
      · rw [upd_ne hb] at z ⊢
        rw [upd_ne (ne_of_none z hdn)]; exact z
    tbls := fun b ps z => by
      by_cases hb : b = hp.objs.size + 1
      · rw [hb, upd_same] at z; cases (Option.some.inj z : exo _ _ _ = HO.tbl ps)
      · rw [upd_ne hb] at z
        exact ⟨#[], by rw [upd_ne hb, upd_ne (ne_of_none z hdn), z]; simp⟩ }
  have hok : HOk X.prog X.w (upd (upd H1 dx (exd dx (xs.zip vs))) (hp.objs.size + 1) (exo (hp.objs.size + 1) C (some dx))) h2 := fun b o z => by
    by_cases hb : b = hp.objs.size + 1
    · subst hb
      rw [upd_same] at z; cases z
      exact exo_ok he'
    · rw [upd_ne hb] at z
      by_cases hb2 : b = dx
      · subst hb2
        rw [upd_same] at z; cases z
        exact exd_ok hns rel
      · rw [upd_ne hb2] at z
        refine (I1.hok b o z).stay (fun c v _ y => kp' c v y) (fun c hc => ?_) fun c ys hc => ?_
        · rw [upd_ne (ne_of_none hc hn), upd_ne (ne_of_none hc hdn)]; exact hc
        · rw [upd_ne (ne_of_none hc hn), upd_ne (ne_of_none hc hdn)]; exact hc
  have eH : upd (del (upd (upd H1 dx (exd dx (xs.zip vs))) (hp.objs.size + 1) (exo (hp.objs.size + 1) C (some dx))) (hp.objs.size + 1)) dx (.xd (xs.zip vs)) = upd H1 dx (.xd (xs.zip vs)) := by
    funext b
    by_cases hb2 : b = dx
    · subst hb2; rw [upd_same, upd_same]
    · rw [upd_ne hb2, upd_ne hb2]
      by_cases hb : b = hp.objs.size + 1
      · subst hb; rw [del_same, hn]
      · rw [del_ne hb, upd_ne hb, upd_ne hb2]
  have qq := q1 dx hdn
  rw [← eH] at qq
  exact ⟨rfl, mk_end (raises_own XF.ox.exC XF.ox.tyC) I1 (Nat.le_succ _) (fun _ _ z => z) un hok o1 (by have e : g2 = g := o2; rw [e]; exact I1.bare) upd_same (by rw [upd_ne hde]; exact upd_same) hdn qq⟩
end
end Mi

set_option Elab.async false
set_option linter.all false
set_option maxRecDepth 100000
set_option maxHeartbeats 4000000
/-! Mi, part 32: a def that calls what it got and tells what came of it. -/
namespace Mi
open PySem PySem.Spec PyProof.Rows L2
/-! ### repr of a leaf -/
def reprL : V → Option Str
  | .non => some "None"
  | .bl b => some (if b then "True" else "False")
  | .int i => if i.natAbs.log2 < 1920 then some (toString i) else none
  | .str s => if (reprText s).length ≤ sizeLine then some (reprText s) else none
  | _ => none
theorem call_repr {X : Cx} : CallR X (.builtin "repr") (fun xs H Q => ∃ x t, xs = [x] ∧ reprL x = some t ∧ Q (.str t) H) := by
  intro pins s σ H xs us Q I r h
  obtain ⟨x, t, rfl, e, q⟩ := h
  obtain ⟨u, rfl, ru⟩ := vals1 r
  cases x with
  | non =>
    obtain rfl : u = Value.none := ru
    cases e
    exact PySem.P.repr_of_none ⟨.str _, H, I.tok _, ⟨_, rfl⟩, q⟩
  | bl b =>
    obtain rfl : u = Value.bool b := ru
    cases e
    exact PySem.P.repr_of_bool ⟨.str _, H, I.tok _, ⟨_, rfl⟩, q⟩
  | int i =>
    obtain ⟨tk, rfl⟩ := ru
    have e' : (if i.natAbs.log2 < 1920 then some (toString i : Str) else none) = some t := e
    by_cases hz : i.natAbs.log2 < 1920
    · rw [if_pos hz] at e'
      cases e'
      exact PySem.P.repr_of_int hz ⟨.str _, H, I.tok _, ⟨_, rfl⟩, q⟩
    · rw [if_neg hz] at e'; cases e'
  | str z =>
    obtain ⟨tk, rfl⟩ := ru
    have e' : (if (reprText z).length ≤ sizeLine then some (reprText z) else none) = some t := e
    by_cases hz : (reprText z).length ≤ sizeLine
    · rw [if_pos hz] at e'
      cases e'
      exact PySem.P.repr_of_str ⟨.str _, H, I.tok _, ⟨_, rfl⟩, q⟩ hz
    · rw [if_neg hz] at e'; cases e'
  | _ => cases e
/-! ### what a clause tells -/
inductive It where
  | str (s : List Nat) | fld (f : Str) | rep (f : Str)
inductive ItIs : Option Str → Expr → It → Prop
  | str {n : Option Str} {s : List Nat} {j : Nat} {p : Pos} : ItIs n (.Constant (.str (toS s)) j p) (.str s)
  | fld {n f : Str} {p q : Pos} : ItIs (some n) (.Attribute (.Name n p) f q) (.fld f)
  | rep {n f : Str} {p q p1 p2 : Pos} : ItIs (some n) (.Call (.Name "repr" p1) [.Attribute (.Name n p) f q] [] p2) (.rep f)
inductive ItsIs : Option Str → List Expr → List It → Prop
  | nil {n : Option Str} : ItsIs n [] []
  | cons {n : Option Str} {e : Expr} {i : It} {es : List Expr} {is : List It} (h : ItIs n e i) (t : ItsIs n es is) : ItsIs n (e :: es) (i :: is)
/-- the field f of the exception -/
def FldV (K : PySem.W.Frag) (cls : Value) (dx : Option Addr) (H : Hp) (f : Str) (v : V) : Prop :=
  ∃ C dd fs, cls = .ref C ∧ XfC K C ∧ PySem.W.findIn K (.ref C) f = some none ∧ dx = some dd ∧ H dd = some (.xd fs) ∧ fs.lookup f = some v
def ItV (K : PySem.W.Frag) (cls : Value) (dx : Option Addr) (H : Hp) : It → V → Prop
  | .str s, x => x = .str (toS s)
  | .fld f, x => FldV K cls dx H f x
  | .rep f, x => ∃ v t, FldV K cls dx H f v ∧ reprL v = some t ∧ x = .str t
inductive ItsV (K : PySem.W.Frag) (cls : Value) (dx : Option Addr) (H : Hp) : List It → List V → Prop
  | nil : ItsV K cls dx H [] []
  | cons {i : It} {x : V} {is : List It} {xs : List V} (h : ItV K cls dx H i x) (t : ItsV K cls dx H is xs) : ItsV K cls dx H (i :: is) (x :: xs)
section
variable {X : Cx}
/-- the reading of an item: nothing but its value -/
def tItem (K : PySem.W.Frag) (a : Addr) (cls : Value) (dx : Option Addr) (n : Option Nat) (i : It) : TE := fun σ H Q => (∀ j, n = some j → σ[j]? = some (some (.ref a))) ∧ ∃ x, ItV K cls dx H i x ∧ Q x H
def tItems (K : PySem.W.Frag) (a : Addr) (cls : Value) (dx : Option Addr) (n : Option Nat) (is : List It) : TA := fun σ H Q => (∀ j, n = some j → σ[j]? = some (some (.ref a))) ∧ ∃ xs, ItsV K cls dx H is xs ∧ Q xs H
/-- how the clause's name is kept -/
def NmIs (X : Cx) (n : Option Str) (j : Option Nat) : Prop := match n, j with
  | none, none => True
  | some n, some j => X.N[j]? = some n ∧ Vis X.env.scope n ∧ (n == ("__debug__" : Str)) = false ∧ (n == ("__classdict__" : Str)) = false
  | _, _ => False
theorem item_ok {a : Addr} {oe : Obj} {cls : Value} {dx : Option Addr} {pn : List (Addr × Obj)} {n : Option Str} {j : Option Nat} {e : Expr} {i : It} (hz : Zc cls dx oe) (hf : ∃ vs, oe.data = .fields vs) (hn : NmIs X n j) (hgr : Gl X "repr") (hmr : X.mg "repr" = none) (h : ItIs n e i) :
    PE (X.suite a ((a, oe) :: pn)) e (tItem X.K a cls dx j i) := by
  cases h with
  | str => exact (pe_str).imp fun σ H Q ⟨_, x, e, q⟩ => by subst e; exact q
  | @fld n f p q =>
    match j, hn with
    | some j, ⟨h1, h2, h3, h4⟩ =>
      refine ⟨fun pins s σ H Q I ⟨hj, x, ⟨C, dd, fs, e1, T, no, e2, e3, e4⟩, hq⟩ => ?_⟩
      have pv : PE (X.suite a ((a, oe) :: pn)) (.Name n p) (tVar j) := pe_var h1 h2 h3 h4
      exact (pe_xf (C := C) T no hz hf pv).run pins s σ H Q I ⟨.ref a, hj j rfl, rfl, e1, dd, fs, x, e2, e3, e4, hq⟩
  | @rep n f p q p1 p2 =>
    match j, hn with
    | some j, ⟨h1, h2, h3, h4⟩ =>
      refine ⟨fun pins s σ H Q I ⟨hj, x, ⟨v, t, ⟨C, dd, fs, e1, T, no, e2, e3, e4⟩, hr, hx⟩, hq⟩ => ?_⟩
      have pv : PE (X.suite a ((a, oe) :: pn)) (.Name n p) (tVar j) := pe_var h1 h2 h3 h4
      have pf := pe_xf (pos := q) (C := C) T no hz hf pv
      refine (pe_callB (X := X.suite a ((a, oe) :: pn)) (pos := p2) call_repr hgr hmr (by first | rfl | kernel_rfl) (pa_cons pf pa_nil)).run pins s σ H Q I ?_
      subst hx
      exact ⟨.ref a, hj j rfl, rfl, e1, dd, fs, v, e2, e3, e4, v, t, rfl, hr, hq⟩
theorem ItIs.star {n : Option Str} {e : Expr} {i : It} (h : ItIs n e i) : notStar e = true := by cases h <;> rfl
theorem items_ok {a : Addr} {oe : Obj} {cls : Value} {dx : Option Addr} {pn : List (Addr × Obj)} {n : Option Str} {j : Option Nat} (hz : Zc cls dx oe) (hf : ∃ vs, oe.data = .fields vs) (hn : NmIs X n j) (hgr : Gl X "repr") (hmr : X.mg "repr" = none) : ∀ {es : List Expr} {is : List It}, ItsIs n es is →
    PA (X.suite a ((a, oe) :: pn)) es (tItems X.K a cls dx j is) := by
  intro es is h
  induction h with
  | nil => exact (pa_nil).imp fun σ H Q ⟨_, xs, e, q⟩ => by cases e; exact q
  | @cons e i es is h t ih =>
    refine (pa_cons (item_ok hz hf hn hgr hmr h) ih (star_cons h.star)).imp fun σ H Q ⟨hj, xs, e, q⟩ => ?_
    cases e with
    | cons h1 h2 => exact ⟨hj, _, h1, hj, _, h2, q⟩
end
/-- a clause: the class's name and address, its own name and slot, what it tells -/
structure Hm where
  x : Str
  c : Addr
  n : Option Str
  j : Option Nat
  its : List It
def nmB0 (N : List Str) (sc : Scope) : Option Str → Option Nat → Prop
  | none, none => True
  | some n, some j => N[j]? = some n ∧ sc.names.lookup n = some .local ∧ (n == ("__debug__" : Str)) = false ∧ (n == ("__classdict__" : Str)) = false
  | _, _ => False
inductive HsOk (mg : Str → Option Value) (N : List Str) (sc : Scope) : List ExceptHandler → List Hm → Prop
  | nil : HsOk mg N sc [] []
  | cons {h : Hm} {p1 p2 p3 p4 : Pos} {es : List Expr} {jj : Nat} {hds : List ExceptHandler} {l : List Hm} (hg : sc.names.lookup h.x = some .globalImplicit) (hd : (h.x == ("__debug__" : Str)) = false) (hm : mg h.x = some (.ref h.c)) (hn : nmB0 N sc h.n h.j) (hi : ItsIs h.n es h.its) (r : HsOk mg N sc hds l) :
      HsOk mg N sc (.ExceptHandler (some (.Name h.x p1)) h.n [.Return (some (.Tuple es jj p2)) p3] p4 :: hds) (h :: l)
def Hm.hc (K : PySem.W.Frag) (h : Hm) : Hc := ⟨.ref h.c, h.j, fun a cls dx => tRet (tTup (tItems K a cls dx h.j h.its))⟩
section
variable {X : Cx}
theorem nm_is {N : List Str} {sc : Scope} (e1 : X.N = N) (e2 : X.env.scope = sc) : ∀ {n : Option Str} {j : Option Nat}, nmB0 N sc n j → NmIs X n j
  | none, none, _ => trivial
  | some n, some j, ⟨h1, h2, h3, h4⟩ => ⟨by rw [e1]; exact h1, .inl (by rw [e2]; exact h2), h3, h4⟩
theorem hs_cl {N : List Str} {sc : Scope} (e1 : X.N = N) (e2 : X.env.scope = sc) (hgr : Gl X "repr") (hmr : X.mg "repr" = none) : ∀ {hds : List ExceptHandler} {l : List Hm}, HsOk X.mg N sc hds l → ClOk X hds (l.map (Hm.hc X.K)) := by
  intro hds l h
  induction h with
  | nil => exact .nil
  | @cons h p1 p2 p3 p4 es jj hds l hg hd hm hn hi r ih =>
    have hc : Names X h.x (.ref h.c) := ⟨by show X.env.scope.names.lookup h.x = _; rw [e2]; exact hg, hd, .inl hm⟩
    have hN := nm_is e1 e2 hn
    have hs : SuiteOk X (.Return (some (.Tuple es jj p2)) p3) [] (fun a cls dx => tRet (tTup (tItems X.K a cls dx h.j h.its))) := fun a oe cls dx pn hz hf => pss_one (ps_ret (pe_tup (items_ok hz hf hN hgr hmr hi)))
    obtain ⟨hx, hc1, hn1, hj, hits⟩ := h
    match hn1, hj, hn, hN, hs with
    | none, none, _, _, hs => exact .only hc hs ih
    | some n, some j, ⟨h1, h2, _, _⟩, _, hs => exact .named hc (by rw [e1]; exact h1) (by show X.env.scope.names.lookup n = _; rw [e2]; exact h2) hs ih
end
/-- what the clauses make of an exception that stands at H -/
def askC (K : PySem.W.Frag) (cls : Value) (dx : Option Addr) (H : Hp) (Q : VK) : List Hm → Prop
  | [] => False
  | h :: r => ∃ b, PySem.W.exmOne K cls (.ref h.c) = some b ∧ (b = true → ∃ xs, ItsV K cls dx H h.its xs ∧ xs.length ≤ sizeLine ∧ ∀ p, H p = none → Q (.ref p) (upd H p (.tup xs))) ∧ (b = false → askC K cls dx H Q r)
def TTc (K : PySem.W.Frag) (tag : List Nat) (l : List Hm) : (XK → Hp → VK → Prop) → Hp → VK → Prop := fun tl H Q =>
  tl (fun cls dx H' => askC K cls dx H' Q l) H fun v H' => ∀ p, H' p = none → Q (.ref p) (upd H' p (.tup [.str (toS tag), v]))
/-- return None, or nothing, behind the clauses -/
inductive RestIs : List Stmt → Prop
  | nil : RestIs []
  | ret {j : Nat} {p q : Pos} : RestIs [.Return (some (.Constant .none j p)) q]
theorem ask_all {X : Cx} {D : Ends} {σ : L2.St} {H : Hp} {cls : Value} {dx : Option Addr} {N : List Str} {sc : Scope} (hσ : σ.length = N.length) : ∀ {hds : List ExceptHandler} {l : List Hm}, HsOk X.mg N sc hds l → askC X.K cls dx H D.rt l → askAll X.K (fun _ _ _ _ => False) D (l.map (Hm.hc X.K)) cls dx σ H := by
  intro hds l h
  induction h with
  | nil => exact fun z => z
  | @cons h p1 p2 p3 p4 es jj hds l hg hd hm hn hi r ih =>
    rintro ⟨b, e1, e2, e3⟩
    refine ⟨b, e1, fun hb a ha => ?_, fun hb => ih (e3 hb)⟩
    obtain ⟨xs, v1, v2, v3⟩ := e2 hb
    obtain ⟨hx, hc1, hn1, hj, hits⟩ := h
    match hn1, hj, hn with
    | none, none, _ => exact ⟨fun j z => (by cases z), xs, v1, v2, v3⟩
    | some n, some j, ⟨h1, _, _, _⟩ =>
      refine ⟨fun i z => ?_, xs, v1, v2, v3⟩
      cases z
      have hlt : j < σ.length := by rw [hσ]; exact (List.getElem?_eq_some_iff.mp h1).1
      show (σ.set j (some (.ref a)))[j]? = _
      rw [List.getElem?_set_self hlt]
theorem takes_len {X : Cx} {W : WX} (t : L2.Takes X W) : L2.Takes X (fun cls d σ H => σ.length = X.N.length → W cls d σ H) := fun u s' ⟨a, B, sI, pins, σ, H, cls, d, e, I, nb, up, sky, na, os, ag, w⟩ =>
  t u s' ⟨a, B, sI, pins, σ, H, cls, d, e, I, nb, up, sky, na, os, ag, w I.len⟩
open LamX in
theorem comp_gives {X : Cx} {Ng : List Str} {x a q : Str} {sg : Scope} {g : Addr} {cdg : Value} {tag : List Nat} {hd : ExceptHandler} {hds : List ExceptHandler} {rest : List Stmt} {l : List Hm} {j1 j2 : Nat} {p1 p2 p3 p4 p5 p6 : Pos}
    (hNd : Ng.Nodup) (hps : FnScope Ng [a] sg) (hgr : sg.names.lookup ("repr" : Str) = some .globalImplicit) (hmr : X.mg "repr" = none) (hh : HsOk X.mg Ng sg (hd :: hds) l) (hrest : RestIs rest) :
    GivesTo X Ng x sg g cdg (.Try [.Return (some (.Tuple [.Constant (.str (toS tag)) j1 p1, .Call (.Name a p2) [] [] p3] j2 p4)) p5] (hd :: hds) [] [] p6 :: rest) a q (TTc X.K tag l) := by
  intro f c' s H Q tl act hc h
  have hN1 : 1 ≤ Ng.length := by have := congrArg List.length hps.pre; rw [List.length_take] at this; simp at this; omega
  have len0 : (L2.start Ng [V.ref f]).length = Ng.length := by
    unfold L2.start
    simp; omega
  have pr : ∃ t, PSs (cxOf C8.CX0 X.prog X.w X.K X.mg X.base Ng x sg g cdg X.A X.stack s H C8.E0).nox rest t := by
    cases hrest with
    | nil => exact ⟨_, pss_nil⟩
    | ret => exact ⟨_, pss_one (ps_ret pe_non)⟩
  obtain ⟨tr, pr⟩ := pr
  have try_ := try_mix (X := (cxOf C8.CX0 X.prog X.w X.K X.mg X.base Ng x sg g cdg X.A X.stack s H C8.E0).nox) (pos := p6) (Wo := fun _ _ _ _ => False)
      (body := [.Return (some (.Tuple [.Constant (.str (toS tag)) j1 p1, .Call (.Name a p2) [] [] p3] j2 p4)) p5]) (h₀ := hd) (hds := hds)
      (tb := fun W D σ H => ∃ Ech : XK, (∀ cls d σ' H', Ech cls d H' → σ'.length = Ng.length → W cls d σ' H') ∧ σ[0]? = some (some (.ref f)) ∧ H c' = some (CodeO c' q) ∧ tl Ech H fun v H' => ∀ p, H' p = none → D.rt (.ref p) (upd H' p (.tup [.str (toS tag), v])))
      rfl rfl hNd takes0 (fun W pn xe tk _ => ⟨fun pins s' σ H' D I h' => by
        obtain ⟨Ech, hW, h1, h2, h3⟩ := h'
        have hp := act _ pn xe Ech p2 p3 (takes_len tk) (fun cls d σ' H'' z hl => hW cls d σ' H'' z hl)
        have hq := pss_one (ps_ret (pos := p5) (pe_tup (x1 := j2) (pos := p4) (pa_cons (pe_str (x := toS tag) (j := j1) (pos := p1)) (pa_cons hp pa_nil))))
        exact hq.run pins s' σ H' D I ⟨h1, h2, by
          have e : (fun (v : V) (H2 : Hp) => ∀ p, H2 p = none → D.rt (.ref p) (upd H2 p (.tup [.str (toS tag), v]))) = fun v H2 => [V.str (toS tag), v].length ≤ sizeLine ∧ ∀ p, H2 p = none → D.rt (.ref p) (upd H2 p (.tup [.str (toS tag), v])) := by
            funext v H2
            exact propext ⟨fun z => ⟨by rw [sizeLine_eq]; simp, z⟩, fun z => z.2⟩
          rw [e] at h3
          exact h3⟩⟩) (hs_cl (X := (cxOf C8.CX0 X.prog X.w X.K X.mg X.base Ng x sg g cdg X.A X.stack s H C8.E0).nox) rfl rfl hgr hmr hh)
  refine ⟨_, pss_cons try_ pr, ?_⟩
  have h0 : (L2.start Ng [V.ref f])[0]? = some (some (V.ref f)) := rfl
  exact ⟨fun cls dx H' => askC X.K cls dx H' Q l, fun cls d σ' H' z hl => ask_all (X := (cxOf C8.CX0 X.prog X.w X.K X.mg X.base Ng x sg g cdg X.A X.stack s H C8.E0).nox) hl hh z, h0, hc, h⟩
end Mi

set_option Elab.async false
set_option linter.all false
set_option maxRecDepth 100000
set_option maxHeartbeats 4000000
/-! Mi, part 33: a lambda made and handed to a complaint def; nothing that was known goes. -/
namespace Mi
open PySem PySem.Spec PyProof.Rows L2 LamX
/-- what the making leaves: all but tables stands, no known address goes; what stands still goes on, the code object at c, of the name q, among it -/
structure GrownC (T : List (Addr × Str)) (c : Addr) (q : Str) (H H1 : Hp) : Prop where
  ext : ExtN H H1
  dom : ∀ a, H1 a = none → H a = none
  go : ∀ F, L2.Same F H → (∀ a ps, F a ≠ some (.tbl ps)) → TabsF T F H → ∃ F1, L2.Same F F1 ∧ L2.Same F1 H1 ∧ (∀ a o, F1 a = some o → F a = some o ∨ H a = none) ∧ (∀ a ps, F1 a ≠ some (.tbl ps)) ∧ TabsF T F1 H1 ∧ F1 c = some (CodeO c q)
/-- the code object was there -/
theorem grown_hit {T : List (Addr × Str)} {P c : Addr} {q : Str} {H : Hp} {ps : Array Value} {pos : Pos} (hm : (P, q) ∈ T) (hP : H P = some (.tbl ps)) (hc : codeAmong pos ps.toList = some (.ref c)) : GrownC T c q H H :=
  ⟨ExtN.refl H, fun _ z => z, fun F le nt tf => by
    obtain ⟨ps2, g1, _, g3⟩ := tf _ hm
    have e : ps2 = ps := by rw [hP] at g1; exact (HO.tbl.inj (Option.some.inj g1)).symm
    subst e
    obtain ⟨c2, e2, g4⟩ := g3 pos _ hc
    cases e2
    exact ⟨F, L2.Same.refl F, le, fun _ _ h => .inl h, nt, tf, g4⟩⟩
/-- the code object is new -/
theorem grown_new {T : List (Addr × Str)} {P c : Addr} {q : Str} {H : Hp} {ps : Array Value} {pos : Pos} (hu : ∀ p ∈ T, p.1 = P → p.2 = q) (hP : H P = some (.tbl ps)) (nC : H c = none) (triples : TriplesOk ps.toList) :
    GrownC T c q H (upd (upd H P (.tbl (ps ++ #[rawInt pos.line, rawInt pos.col, .ref c]))) c (CodeO c q)) := by
  have nP : P ≠ c := ne_of_none hP nC
  have at_ : ∀ b o, H b = some o → b ≠ P → upd (upd H P (.tbl (ps ++ #[rawInt pos.line, rawInt pos.col, .ref c]))) c (CodeO c q) b = some o := fun b o e n => by
    rw [upd_ne (ne_of_none e nC), upd_ne n]; exact e
  refine ⟨fun b o e n => at_ b o e fun z => n ps (Option.some.inj (e.symm.trans (z ▸ hP))), fun b hb => ?_, fun F le nt tf => ?_⟩
  · by_cases h1 : b = c
    · rw [h1]; exact nC
    · rw [upd_ne h1] at hb
      by_cases h2 : b = P
      · rw [h2, upd_same] at hb; cases hb
      · rw [upd_ne h2] at hb; exact hb
  · have fc : F c = none := by
      cases z : F c with
      | none => rfl
      | some o => rw [le _ _ z] at nC; cases nC
    have fP : ∀ b o, F b = some o → b ≠ P := fun b o e z => by
      subst z
      have := le _ _ e
      rw [hP] at this
      cases this
      exact nt _ _ e
    have up : L2.Same F (upd F c (CodeO c q)) := fun b o e => by rw [upd_ne (ne_of_none e fc)]; exact e
    refine ⟨upd F c (CodeO c q), up, fun b o e => ?_, fun b o e => ?_, ftb_new nt codeO_ne, fun p hp => ?_, upd_same⟩
    · by_cases z : b = c
      · subst z; rw [upd_same] at e ⊢; exact e
      · rw [upd_ne z] at e; exact at_ b o (le _ _ e) (fP b o e)
    · by_cases z : b = c
      · subst z; exact .inr nC
      · rw [upd_ne z] at e; exact .inl e
    · obtain ⟨qs, a1, a2, a3⟩ := tf p hp
      by_cases hb : p.1 = P
      · have hq := hu p hp hb
        rw [hb] at a1 ⊢
        have e : qs = ps := by rw [hP] at a1; exact (HO.tbl.inj (Option.some.inj a1)).symm
        subst e
        have eL : (qs ++ #[rawInt pos.line, rawInt pos.col, .ref c]).toList = qs.toList ++ [rawInt pos.line, rawInt pos.col, .ref c] := by simp
        refine ⟨_, by rw [upd_ne nP, upd_same], by rw [eL]; exact PySem.TriplesOk_snoc _ _ _ _ triples, fun p' cv hcv => ?_⟩
        rw [eL] at hcv
        rcases among_app _ triples hcv with z | z
        · obtain ⟨c0, e1, e2⟩ := a3 p' cv z
          exact ⟨c0, e1, up _ _ e2⟩
        · exact ⟨c, z, by rw [hq]; exact upd_same⟩
      · refine ⟨qs, by rw [upd_ne (ne_of_none a1 nC), upd_ne hb]; exact a1, a2, fun p' cv hcv => ?_⟩
        obtain ⟨c0, e1, e2⟩ := a3 p' cv hcv
        exact ⟨c0, e1, up _ _ e2⟩
section
variable {X : Cx} {pins : List (Addr × Obj)} {σ : L2.St} {H : Hp} {s : Shared}
/-- a lambda is made; kept: its object is told of from now on -/
theorem lam_made {T : List (Addr × Str)} {c P : Addr} {params : Arguments} {body : Expr} {scope : Scope} {pos : Pos} {E Q : Value → Shared → Prop}
    (I : Inv X pins σ H s) (TB : TabB X.base X.mg c P) (hcode : X.env.code = .ref c) (hm : (P, X.env.qual ++ "<lambda>") ∈ T) (hu : ∀ p ∈ T, p.1 = P → p.2 = X.env.qual ++ "<lambda>") (hT : Tabs T H) (hdef : defaultsOf params X.env = ([], [])) (hfree : ∀ y ∈ scope.names, y.2 = .free → ∃ c, X.env.cells.lookup y.1 = some c)
    (fin : ∀ (f c' : Addr) (pm ctv : Value) (H1 : Hp) (s' : Shared), Inv X pins σ H1 s' → GrownC T c' (X.env.qual ++ "<lambda>") H H1 →
      s'.heap.get? f = some (PySem.W.kla_obj "<lambda>" (X.env.qual ++ "<lambda>") params body scope (cloFrom X.env.cells scope.names []) pm c' ctv) → H1 f = none → f ∉ frs X.stack → H1 c' = some (CodeO c' (X.env.qual ++ "<lambda>")) →
      (∀ φ : Heap → Prop, φ s'.heap → (∀ h1 h2 : Heap, φ h1 → (∀ o, h1.get? f = some o → h2.get? f = some o) → φ h2) → Inv X pins σ (upd H1 f (.ext φ)) s') → Q (.ref f) s') :
    wpAny (model X.prog X.w) X.A (eval (.Lambda params body scope pos) X.env) Q E s := by
  have tP := hT _ hm
  obtain ⟨ps, hP, triples, among⟩ := tP
  apply PySem.W.kla_eval hdef
  have bk := TB.bm.keeps I.bk
  have atP : s.heap.get? P = some { cls := .none, data := .fields ps } := I.hok P _ hP
  have outside : ∀ f, s.heap.objs.size ≤ f → f ∉ frs X.stack := by
    intro f hf z
    rcases List.mem_cons.mp (I.stkSub _ z) with e | e
    · exact absurd (Nat.lt_of_lt_of_le (e ▸ I.lt) hf) (Nat.lt_irrefl _)
    · exact I.nofs hf e
  match hc : codeAmong pos ps.toList with
  | some cv =>
    obtain ⟨c', e, hco⟩ := among pos cv hc
    subst e
    apply PySem.W.kla_makeFunctionHit (mg := X.mg) (c := c) (P := P) (ps := ps) (closure_ok hfree) I.ok.glob (I.mod.glob.keeps I.bk) hcode (TB.code.keeps I.bk) atP triples hc bk
    intro ctv h' tk grow hsz
    have J : Inv X pins σ H { s with heap := h'.push (PySem.W.kla_obj "<lambda>" (X.env.qual ++ "<lambda>") params body scope (cloFrom X.env.cells scope.names []) ((X.mg "__name__").getD .none) c' ctv), toks := tk } := I.kept fun b o e => Heap.get?_push_of_some _ (grow b o e)
    refine fin h'.objs.size c' _ ctv H _ J (grown_hit hm hP hc) (Heap.get?_push_size _ rfl) (I.hok.fresh hsz) (outside _ hsz) hco fun φ hφ st => ?_
    exact I.laid (t' := tk) (fun b o e => Heap.get?_push_of_some _ (grow b o e)) hsz ⟨hφ, ⟨_, Heap.get?_push_size _ rfl⟩, st⟩
  | none =>
    apply PySem.W.kla_makeFunction (mg := X.mg) (c := c) (P := P) (ps := ps) (closure_ok hfree) I.ok.glob (I.mod.glob.keeps I.bk) hcode (TB.code.keeps I.bk) atP triples hc TB.gP bk
    intro c' ctv h' tk grow hge hlt hrec tabl
    obtain ⟨c2, oc, vs, t, e2, hoc, hd, hv⟩ := hrec
    cases e2
    have nC : H c' = none := I.hok.fresh hge
    have sz : s.heap.objs.size ≤ h'.objs.size := Nat.le_trans hge (Nat.le_of_lt hlt)
    have J0 := inv_table (t' := tk) (more := #[rawInt pos.line, rawInt pos.col, .ref c']) (h' := h') I hP (fun b o hb e => grow b o hb e) tabl hge ⟨oc, vs, t, hoc, hd, hv⟩
    have J := inv_table (t' := tk) (more := #[rawInt pos.line, rawInt pos.col, .ref c']) (h' := h'.push (PySem.W.kla_obj "<lambda>" (X.env.qual ++ "<lambda>") params body scope (cloFrom X.env.cells scope.names []) ((X.mg "__name__").getD .none) c' ctv)) I hP
      (fun b o hb e => Heap.get?_push_of_some _ (grow b o hb e)) (Heap.get?_push_of_some _ tabl) hge ⟨oc, vs, t, Heap.get?_push_of_some _ hoc, hd, hv⟩
    refine fin h'.objs.size c' _ ctv _ _ J (grown_new hu hP nC triples) (Heap.get?_push_size _ rfl) ?_ (outside _ sz) upd_same fun φ hφ st => ?_
    · have n1 : h'.objs.size ≠ c' := Nat.ne_of_gt hlt
      have n2 : h'.objs.size ≠ P := Nat.ne_of_gt (Nat.lt_of_lt_of_le (Heap.lt_size atP) sz)
      rw [upd_ne n1, upd_ne n2]
      exact I.hok.fresh sz
    · exact J0.laid (t' := tk) (fun b o e => Heap.get?_push_of_some _ e) (Nat.le_refl _) ⟨hφ, ⟨_, Heap.get?_push_size _ rfl⟩, st⟩
def tCo (T : List (Addr × Str)) (TT : (XK → Hp → VK → Prop) → Hp → VK → Prop) (t : XK → TE) : TE := fun σ H Q => Tabs T H ∧ ∀ H1, (∃ c q, GrownC T c q H H1) → TT (fun E H' Q' => t E σ H' Q') H1 Q
/-- x(lambda: body), x a complaint def -/
theorem co_call {T : List (Addr × Str)} {TT : (XK → Hp → VK → Prop) → Hp → VK → Prop} {x a : Str} {g c P : Addr} {k : Nat} {pg : Arguments} {bg : List Stmt} {sg : Scope} {dV kV doc pm cdv ct oc : Value} {an od : Option Addr} {osl : Array (Option Value)} {Ng : List Str}
    {params : Arguments} {body : Expr} {scope : Scope} {t : XK → TE} {p lpos pos : Pos} (hg : Gl X x) (hm : X.mg x = some (.ref g)) (hk : PySem.W.keepIn X.K (.ref g) = true)
    (lk : X.K.lookup g = some ⟨oc, od, .func (PySem.W.fnOf x x pg bg sg dV kV doc pm an cdv ct), osl⟩) (hcg : PySem.W.codeIn X.K cdv x = true) (hb : L2.Binds X.K (PySem.W.fnOf x x pg bg sg dV kV doc pm an cdv ct) [a] []) (Sg : FnScope Ng [a] sg) (hNg : Ng[0]? = some a) (hva : Vis sg a)
    (hG : GivesTo X Ng x sg g cdv bg a (X.env.qual ++ "<lambda>") TT) (TB : TabB X.base X.mg c P) (hcode : X.env.code = .ref c) (hmT : (P, X.env.qual ++ "<lambda>") ∈ T) (hu : ∀ p ∈ T, p.1 = P → p.2 = X.env.qual ++ "<lambda>") (hr : Room (k + 2) X.A) (L : LamS X.env.scope scope) (hdef : defaultsOf params X.env = ([], []))
    (hbind : ∀ (q : Str) (cl : List (Str × Addr)) (pm cv ctv : Value), bindArgs (PySem.W.kla_fn "<lambda>" q params body scope cl pm cv ctv) ⟨[], []⟩ = pure [])
    (hbody : ∀ (A : Around) (outer : List PySem.Env) (s : Shared) (H : Hp) (E : XK) (f c' : Addr), Room k (A.deeper (lamEnv X scope s.heap.objs.size f c')) → PE (lamCx X A outer s H E scope f c') body (t E))
    (hdb : (x == ("__debug__" : Str)) = false) (hd : (a == ("__debug__" : Str)) = false) (hcd : (a == ("__classdict__" : Str)) = false) :
    PE X (.Call (.Name x p) [.Lambda params body scope lpos] [] pos) (tCo T TT t) := by
  constructor
  intro pins s σ H Q I ⟨hT, h⟩
  apply wpAny_Call_Name_kw
  apply ld_glob I hg hm _ hdb
  refine PySem.W.callWith_K (h₀ := X.base) I.ok.mod.kin hk ?_ (by rfl) (by rfl)
  show wpAny _ _ (spliced ((false, eval (.Lambda params body scope lpos) X.env) :: backTo pos (starEach [] X.env))) _ _ s
  refine Calls.spliced_cons (lam_made I TB hcode hmT hu hT hdef (L.has I.ok) fun f c' pm' ctv H1 s' J gr hf hfn hfr hco _ => ?_)
  refine Calls.spliced_nil ⟨J.kIn, wpAny_call (codeAny_mono (R := CR C8.CX0 X.stack X.prog X.w H1 s' Q C8.E0) ?_ fun r s2 hq => ?_)⟩
  · refine run_ofS (N := Ng) (ps := [a]) (us := [.ref f]) (vs := [.ref f]) lk hcg Sg hr J.env0 (hb s' [.ref f] J.kIn rfl) (.cons rfl .nil) rfl fun hr' => ?_
    obtain ⟨t', ht', hq'⟩ := hG f c' s' H1 Q (fun E H' Q' => t E σ H' Q') (fun W pn xe E q1 q2 tk hW => pe_act (i := 0) J L hf hfn hfr (hbind _ _ _ _ _) tk hW hr' (fun A outer s H hr2 => hbody A outer s H E f c' hr2) hNg hva hd hcd) hco (h H1 ⟨_, _, gr⟩)
    exact ⟨t', ht'.nox, hq'⟩
  · match r, hq with
    | .error e, hq => exact (show False from hq).elim
    | .ok (.ret u), hq => exact J.after hq
    | .ok .next, hq => exact hq.elim
    | .ok .brk, hq => exact hq.elim
    | .ok .cont, hq => exact hq.elim
end
end Mi

set_option Elab.async false
set_option linter.all false
set_option maxRecDepth 100000
set_option maxHeartbeats 4000000
/-! Mi, part 34: exceptions and complaint defs read by the interpreter. -/
namespace Mi
open PySem PySem.Spec PyProof.Rows L2
def itOf (anm : Nat → Str) : Hi → It
  | .str s => .str s
  | .fld f => .fld (anm f)
  | .rep f => .rep (anm f)
/-- the clauses of the table are those of the text -/
inductive HmsIs (Z : Ci) (anm : Nat → Str) : List (Nat × List Hi) → List Hm → Prop
  | nil : HmsIs Z anm [] []
  | cons {k : Nat} {his : List Hi} {h : Hm} {r : List (Nat × List Hi)} {l : List Hm} (h1 : h.c = Z.xa k) (h2 : h.its = his.map (itOf anm)) (t : HmsIs Z anm r l) : HmsIs Z anm ((k, his) :: r) (h :: l)
/-- what is known of an exception class with fields -/
structure XcF (K : PySem.W.Frag) (Z : Ci) (anm : Nat → Str) (na : Nat) (c : Nat) (fs : List Nat) : Prop where
  xf : XfC K (Z.xa c)
  xn : Z.xn c = fs.map anm
  no : ∀ f ∈ fs, PySem.W.findIn K (.ref (Z.xa c)) (anm f) = some none
  one : ∀ f g, f ∈ fs → g ∈ fs → anm g = anm f → g = f
section
variable {Z : Ci} {W : WX} {G : Ga} {X : Cx}
theorem look_xd {anm : Nat → Str} {F : Hp} {ρ : List Addr} : ∀ {fs : List Nat} {ds : List D} {vs : List V} {f : Nat} {d : D}, (∀ g ∈ fs, anm g = anm f → g = f) → Reps Z F ρ ds vs → lookF f fs ds = some d → f ∈ fs ∧ ∃ v, ((fs.map anm).zip vs).lookup (anm f) = some v ∧ Rep Z F ρ d v
  | [], ds, vs, f, d, _, _, h => by cases ds <;> cases h
  | g :: fs, [], vs, f, d, _, _, h => by cases h
  | g :: fs, e :: ds, vs, f, d, hi, r, h => by
    cases r with
    | cons r1 r2 =>
      unfold lookF at h
      by_cases z : g = f
      · rw [if_pos z] at h
        cases h
        subst z
        exact ⟨by simp, _, by simp [List.lookup], r1⟩
      · rw [if_neg z] at h
        obtain ⟨m, v, h1, h2⟩ := look_xd (fun k hk => hi k (by simp [hk])) r2 h
        have ne : anm f ≠ anm g := fun q => z (hi g (by simp) q.symm)
        have e : (anm f == anm g) = false := by simpa using ne
        exact ⟨by simp [m], v, by simp [List.lookup, e, h1], h2⟩
/-- an item's value -/
theorem item_v {anm : Nat → Str} {na c : Nat} {fs : List Nat} {ds : List D} {cls : Value} {dx : Option Addr} {F H : Hp} {ρ : List Addr} {h : Hi} {d : D} (hK : X.K = Z.K) (C : XcF X.K Z anm na c fs) (hr : ∀ d s v F ρ, G.rpr d = some s → Rep Z F ρ d v → reprL v = some (toS s))
    (x : XRep Z c ds cls dx F ρ H) (hone : ∀ f, (h = .fld f ∨ h = .rep f) → ∀ g ∈ fs, anm g = anm f → g = f) (e : itemV G fs ds h = some d) : ∃ v, ItV X.K cls dx H (itOf anm h) v ∧ Rep Z F ρ d v := by
  obtain ⟨rfl, dd, vs, rfl, hd, hl, r⟩ := x
  cases h with
  | str s => cases e; exact ⟨_, rfl, .str⟩
  | fld f =>
    obtain ⟨m, v, h1, h2⟩ := look_xd (anm := anm) (hone f (.inl rfl)) r e
    exact ⟨v, ⟨_, dd, _, rfl, C.xf, C.no f m, rfl, hd, by rw [C.xn]; exact h1⟩, h2⟩
  | rep f =>
    have e' : ((lookF f fs ds).bind fun d => (G.rpr d).map .str) = some d := e
    cases q : lookF f fs ds with
    | none => rw [q] at e'; cases e'
    | some d0 =>
      rw [q] at e'
      obtain ⟨m, v, h1, h2⟩ := look_xd (anm := anm) (hone f (.inr rfl)) r q
      have e2 : (G.rpr d0).map D.str = some d := e'
      cases q2 : G.rpr d0 with
      | none => rw [q2] at e2; cases e2
      | some s =>
        rw [q2] at e2; cases e2
        exact ⟨.str (toS s), ⟨v, toS s, ⟨_, dd, _, rfl, C.xf, C.no f m, rfl, hd, by rw [C.xn]; exact h1⟩, hr d0 s v F ρ q2 h2, rfl⟩, .str⟩
theorem items_v {anm : Nat → Str} {na c : Nat} {fs : List Nat} {ds : List D} {cls : Value} {dx : Option Addr} {F H : Hp} {ρ : List Addr} (hK : X.K = Z.K) (C : XcF X.K Z anm na c fs) (hr : ∀ d s v F ρ, G.rpr d = some s → Rep Z F ρ d v → reprL v = some (toS s)) (x : XRep Z c ds cls dx F ρ H) :
    ∀ {his : List Hi} {l : List D}, (∀ h ∈ his, ∀ f, (h = .fld f ∨ h = .rep f) → ∀ g ∈ fs, anm g = anm f → g = f) → itemsV G fs ds his = some l → ∃ vs, ItsV X.K cls dx H (his.map (itOf anm)) vs ∧ Reps Z F ρ l vs
  | [], l, _, e => by cases e; exact ⟨[], .nil, .nil⟩
  | h :: his, l, hone, e => by
    have e' : ((itemV G fs ds h).bind fun d => (itemsV G fs ds his).map (d :: ·)) = some l := e
    cases q : itemV G fs ds h with
    | none => rw [q] at e'; cases e'
    | some d =>
      rw [q] at e'
      have e2 : (itemsV G fs ds his).map (d :: ·) = some l := e'
      cases q2 : itemsV G fs ds his with
      | none => rw [q2] at e2; cases e2
      | some l' =>
        rw [q2] at e2; cases e2
        obtain ⟨v, a1, a2⟩ := item_v hK C hr x (hone h (by simp)) q
        obtain ⟨vs, b1, b2⟩ := items_v hK C hr x (his := his) (fun k hk => hone k (by simp [hk])) q2
        exact ⟨v :: vs, .cons a1 b1, .cons a2 b2⟩
theorem ItsV.len {K : PySem.W.Frag} {cls : Value} {dx : Option Addr} {H : Hp} {is : List It} {vs : List V} (h : ItsV K cls dx H is vs) : vs.length = is.length := by
  induction h with
  | nil => rfl
  | cons _ _ ih => simp [ih]
/-- the clauses make of the exception what tellC says -/
theorem tell_ask {anm : Nat → Str} {na c : Nat} {ds : List D} {cls : Value} {dx : Option Addr} {F H : Hp} {ρ : List Addr} {S : Sto} {Q : VK} {σ : L2.St} (hK : X.K = Z.K) (hC : ∀ fs, G.xat c = some fs → XcF X.K Z anm na c fs) (hx : ∀ k, PySem.W.exmOne X.K (.ref (Z.xa c)) (.ref (Z.xa k)) = some (G.xsub c k)) (hr : ∀ d s v F ρ, G.rpr d = some s → Rep Z F ρ d v → reprL v = some (toS s))
    (x : XRep Z c ds cls dx F ρ H) (s : StoR Z F ρ S H) : ∀ {r : List (Nat × List Hi)} {l : List Hm}, HmsIs Z anm r l → (∀ fs, G.xat c = some fs → ∀ q ∈ r, ∀ h ∈ q.2, ∀ f, (h = .fld f ∨ h = .rep f) → ∀ g ∈ fs, anm g = anm f → g = f) → PostA Z W (tellC G c ds S r) (pV Z) F ρ σ H Q → askC X.K cls dx H Q l := by
  intro r l h
  induction h with
  | nil => exact fun _ q => q
  | @cons k his h r l h1 h2 t ih =>
    intro hone q
    have ec : cls = .ref (Z.xa c) := x.1
    refine ⟨G.xsub c k, by rw [ec, h1]; exact hx k, fun hb => ?_, fun hb => ?_⟩
    · unfold tellC at q
      rw [if_pos hb] at q
      cases e : G.xat c with
      | none => rw [e] at q; exact q.elim
      | some fs =>
        rw [e] at q
        simp only [Option.bind_some] at q
        cases e2 : itemsV G fs ds his with
        | none => rw [e2] at q; exact q.elim
        | some items =>
          rw [e2] at q
          simp only at q
          split at q
          · rename_i hl
            obtain ⟨vs, a1, a2⟩ := items_v hK (hC fs e) hr x (his := his) (fun h hh => hone fs e (k, his) (by simp) h hh) e2
            refine ⟨vs, by rw [h2]; exact a1, by rw [← a2.len, sizeLine_eq]; omega, fun p hp => ?_⟩
            have ex : Ext nO F ρ H (upd F p (.tup vs)) ρ (upd H p (.tup vs)) := Ext.laid hp s.le
            exact q _ _ _ _ ex (s.laid hp) (.tup (.inl (.inl upd_same)) (ex.reps a2))
          · exact q.elim
    · unfold tellC at q
      rw [if_neg (by rw [hb]; simp)] at q
      exact ih (fun fs hf p hp => hone fs hf p (by simp [hp])) q
/-- the relation behind the making of a lambda -/
theorem GrownC.on {F H H1 : Hp} {ρ : List Addr} {S : Sto} {c : Addr} {q : Str} (s : StoR Z F ρ S H) (g : GrownC Z.tb c q H H1) : ∃ F1, Ext nO F ρ H F1 ρ H1 ∧ StoR Z F1 ρ S H1 ∧ F1 c = some (LamX.CodeO c q) := by
  obtain ⟨F1, g1, g2, g3, g4, g5, g6⟩ := g.go F s.le s.ftb s.tab
  have e : Ext nO F ρ H F1 ρ H1 := ⟨g1, fun a o h _ _ ht => g.ext a o h ht, g.dom, fun a o h => (g3 a o h).elim .inl fun z => .inr (.inl z), [], by simp, by simp⟩
  refine ⟨F1, e, ⟨g2, s.len, s.nd, fun n kv a h1 h2 => ?_, g5, g4⟩, g6⟩
  obtain ⟨a1, vs, a2, a3⟩ := s.at_ n kv a h1 h2
  refine ⟨?_, vs, g.ext _ _ a2 (fun _ z => by cases z), e.reps a3⟩
  cases z : F1 a with
  | none => rfl
  | some o =>
    rcases g3 a o z with w | w
    · rw [a1] at w; cases w
    · rw [a2] at w; cases w
theorem tell_none {c : Nat} {ds : List D} {S : Sto} (h : G.xat c = none) : ∀ r : List (Nat × List Hi), tellC G c ds S r = .bad
  | [] => rfl
  | (k, hs) :: r => by
    unfold tellC
    rw [h]
    split
    · rfl
    · exact tell_none h r
/-- what the complaint def tells, from the lambda's own reading -/
theorem lamc_read {g : Nat} {C : Co} {e : Ex} {anm : Nat → Str} {na : Nat} {l : List Hm} {σ : L2.St} {H : Hp} {Q : VK} (hC : G.co g = some C) (hK : X.K = Z.K) (hms : HmsIs Z anm C.hs l) (hxc : ∀ c fs, G.xat c = some fs → XcF X.K Z anm na c fs) (hx : ∀ c k fs, G.xat c = some fs → PySem.W.exmOne X.K (.ref (Z.xa c)) (.ref (Z.xa k)) = some (G.xsub c k)) (hr : ∀ d s v F ρ, G.rpr d = some s → Rep Z F ρ d v → reprL v = some (toS s))
    (hone : ∀ c fs, G.xat c = some fs → ∀ q ∈ C.hs, ∀ h ∈ q.2, ∀ f, (h = .fld f ∨ h = .rep f) → ∀ g ∈ fs, anm g = anm f → g = f) (h : tE Z W G (.lamc g e) σ H Q) :
    tCo Z.tb (TTc X.K C.tag l) (fun E => tE Z (fun cls d _ H => E cls d H) G e) σ H Q := by
  obtain ⟨F, ρ, v, S, he, hs, hp⟩ := h
  refine ⟨hs.tab.tabs hs.le, fun H1 gr => ?_⟩
  obtain ⟨c0, q0, gr⟩ := gr
  obtain ⟨F1, e1, hs1, _⟩ := gr.on hs
  refine ⟨F1, ρ, v, S, he.ext e1, hs1, ?_⟩
  rw [ev, hC] at hp
  simp only at hp
  cases q : ev G e v S with
  | ok d S' =>
    rw [q] at hp
    intro b F' ρ' H' e2 s2 p2 p hpn
    have ex : Ext nO F' ρ' H' (upd F' p (.tup [.str (toS C.tag), b])) ρ' (upd H' p (.tup [.str (toS C.tag), b])) := Ext.laid hpn s2.le
    exact hp _ _ _ _ ((e1.trans e2).trans ex) (s2.laid hpn) (.tup (.inl (.inl upd_same)) (.cons .str (.cons (ex.rep p2) .nil)))
  | ex c ds S' =>
    rw [q] at hp
    intro cls dx F' ρ' H' e2 s2 x2
    cases ef : G.xat c with
    | none =>
      have hp : PostA Z W (tellC G c ds S' C.hs) (pV Z) F ρ σ H Q := hp
      rw [tell_none ef] at hp; exact hp.elim
    | some fs => exact tell_ask hK (hxc c) (fun k => hx c k fs ef) hr x2 s2 hms (hone c) (PostA.ext hp (e1.trans e2))
  | bad => rw [q] at hp; exact hp
end
end Mi

set_option Elab.async false
set_option linter.all false
set_option maxRecDepth 100000
set_option maxHeartbeats 4000000
/-! Mi, part 35: raise and repr read by the interpreter. -/
namespace Mi
open PySem PySem.Spec PyProof.Rows L2
section
variable {Z : Ci} {W : WX} {G : Ga} {X : Cx}
theorem se_repr {a : Ex} {x : Expr} {p pos : Pos} (hr : ∀ d s v F ρ, G.rpr d = some s → Rep Z F ρ d v → reprL v = some (toS s)) (hg : Gl X "repr") (hm : X.mg "repr" = none) (ha : PE X x (tE Z W G a)) (h1 : starEach [x] X.env = [(false, eval x X.env)]) : PE X (.Call (.Name "repr" p) [x] [] pos) (tE Z W G (.repr a)) := by
  refine (pe_callB call_repr hg hm (by decide +kernel) (pa_one ha h1) (he := by rw [h1]; rfl)).imp fun σ H Q h => ?_
  refine (tG.bind (P := pV Z) (k := fun x _ S => match G.rpr x with | some s => R.ok (D.str s) S | none => .bad) (h.eq fun v S => by rw [ev] <;> rfl)).wk fun x1 H1 ⟨d, F1, ρ1, v1, S1, he, hs, p, q⟩ => ?_
  cases e : G.rpr d with
  | none => simp only [e] at q; exact q.elim
  | some s =>
    simp only [e] at q
    exact ⟨x1, toS s, rfl, hr d s x1 F1 ρ1 e p, PostA.done (P := pV Z) q hs .str⟩
theorem ss_raise {c : Nat} {es : Exs} {e : Expr} {r : List Expr} {x : Str} {fI : Addr} {xs : List Str} {k : Nat} {p pos pos' : Pos} (hc : X.calm = true) (tk : L2.Takes X W) (XF : XiF X.prog X.K (Z.xa c) fI xs) (hne : xs ≠ []) (hxn : Z.xn c = xs) (hat : ∀ fs, G.xat c = some fs → fs.length = xs.length)
    (iC : PySem.W.findIn X.K (.ref (Z.xa c)) "__init__" = some (some (.ref fI))) (tI : PySem.W.typeIn X.K (.ref fI) = some (.type "function")) (hr : Room (k + 1) X.A) (hg : Gl X x) (hm : X.mg x = some (.ref (Z.xa c)))
    (ha : PA X (e :: r) (tEs Z W G es)) (hdb : (x == ("__debug__" : Str)) = false) (he : starEach (e :: r) X.env = (false, eval e X.env) :: starEach r X.env) (hpl : (backTo pos (starEach r X.env)).any (·.1) = false) :
    PS X (.Raise (some (.Call (.Name x p) (e :: r) [] pos)) none pos') (tS Z W (xs1 G (.raise c es))) := by
  refine (L2.ps_raise hc tk (pmk_xi XF hne iC tI hr hg hm ha hdb he hpl)).imp fun D σ H q => ?_
  refine (tS.bind (P := pVs Z) (f := evs G es) (k := fun l v S => match G.xat c with | some fs => (if l.length = fs.length then R.ex c l S else .bad) | none => .bad) (q.eq fun v S => by rw [xs1] <;> rfl)).wk fun vs H1 ⟨l, B, v1, S1, F1, ρ1, p, s1, q1⟩ => ?_
  cases ef : G.xat c with
  | none => simp only [ef] at q1; exact q1.elim
  | some fs =>
    simp only [ef] at q1
    split at q1
    · rename_i hl
      have hlen : vs.length = xs.length := by rw [← hat fs ef, ← hl]; exact (Reps.len p).symm
      refine ⟨hlen, fun d hd => q1 _ _ σ F1 ρ1 _ (fun b hb => (s1.ext b hb).trans (Ext.made hd)) (s1.sto.made hd) ⟨rfl, d, vs, rfl, by rw [hxn]; exact upd_same, by rw [hxn]; exact hlen, p⟩⟩
    · exact q1.elim
end
end Mi

set_option Elab.async false
set_option linter.all false
set_option maxRecDepth 100000
set_option maxHeartbeats 4000000
/-! Mi, part 42: lambdas as values; a complaint def called with one. -/
namespace Mi
open PySem PySem.Spec PyProof.Rows L2 LamX
section
variable {Z : Ci} {W : WX} {G : Ga} {X : Cx}
theorem se_lamv {k : Nat} {c P : Addr} {body : Expr} {scope : Scope} {lpos : Pos} (TB : TabB X.base X.mg c P) (hcode : X.env.code = .ref c) (hmT : (P, X.env.qual ++ "<lambda>") ∈ Z.tb) (hu : ∀ p ∈ Z.tb, p.1 = P → p.2 = X.env.qual ++ "<lambda>") (L : LamS X.env.scope scope)
    (hcl : X.env.cells = Z.cl) (hlq : Z.lq = X.env.qual ++ "<lambda>") (hg : Z.lg k body scope) : PE X (.Lambda ⟨[], [], none, [], [], none, []⟩ body scope lpos) (tE Z W G (.lamv k)) := by
  constructor
  intro pins s σ H Q I ⟨F, ρ, v, S, he, hs, hp⟩
  refine lam_made I TB hcode hmT hu (hs.tab.tabs hs.le) rfl (L.has I.ok) fun f c' pm ctv H1 s' J gr hf hfn hfr hco lay => ?_
  obtain ⟨F1, e1, s1, fc⟩ := gr.on hs
  have J2 : Inv X pins σ (upd H1 f (LamO Z f c' body scope)) s' := lay _ ⟨pm, ctv, by rw [hlq, ← hcl]; exact hf⟩ fun h1 h2 ⟨a, b, z⟩ st => ⟨a, b, st _ z⟩
  have ne : c' ≠ f := ne_of_none hco hfn
  have e2 : Ext nO F1 ρ H1 (upd F1 f (LamO Z f c' body scope)) ρ (upd H1 f (LamO Z f c' body scope)) := Ext.laid hfn s1.le
  have s2 : StoR Z (upd F1 f (LamO Z f c' body scope)) ρ S (upd H1 f (LamO Z f c' body scope)) := s1.laid hfn (fun _ z => by unfold LamO at z; cases z)
  have hp : PostA Z W (.ok (.fn k) S) (pV Z) F ρ σ H Q := by
    have : ev G (.lamv k) v S = .ok (.fn k) S := by rw [ev]
    rw [this] at hp; exact hp
  exact ⟨.ref f, _, J2, rfl, hp _ _ _ _ (e1.trans e2) s2 (.fn hg upd_same (by rw [upd_ne ne, hlq]; exact fc))⟩
/-- x(), x the slot of a lambda that is told of -/
theorem act_f {pins : List (Addr × Obj)} {σ : L2.St} {H : Hp} {s : Shared} {CXg : CXT} {Eg : XK} {Ng : List Str} {qg : Str} {sg : Scope} {g f c' : Addr} {cdg : Value} {body : Expr} {scope : Scope} {k i : Nat} {a : Str} {pn : List (Addr × Obj)} {xe : Value → Shared → Prop} {W1 : WX} {E : XK} {tb : TE} {p1 p2 : Pos}
    (I : Inv X pins σ H s) (L : LamS X.env.scope scope) (hcl : X.env.cells = Z.cl) (tk : L2.Takes ((cxOf CXg X.prog X.w X.K X.mg X.base Ng qg sg g cdg X.A X.stack s H Eg).tr pn xe) W1) (hW : ∀ cls d σ' H', E cls d H' → W1 cls d σ' H') (hr : Room (k + 1) (X.A.deeper (envOfC qg sg s.heap.objs.size g cdg)))
    (hlq : Z.lq = X.env.qual ++ "<lambda>") (hbody : ∀ (A : Around) (outer : List PySem.Env) (s : Shared) (H : Hp), Room k (A.deeper (lamEnv X scope s.heap.objs.size f c')) → PE (lamCx X A outer s H E scope f c') body tb)
    (hN : Ng[i]? = some a) (hv : Vis sg a) (hd : (a == ("__debug__" : Str)) = false) (hcd : (a == ("__classdict__" : Str)) = false) :
    PE ((cxOf CXg X.prog X.w X.K X.mg X.base Ng qg sg g cdg X.A X.stack s H Eg).tr pn xe) (.Call (.Name a p1) [] [] p2)
      (fun σZ HZ Q => σZ[i]? = some (some (.ref f)) ∧ HZ c' = some (CodeO c' Z.lq) ∧ HZ f = some (LamO Z f c' body scope) ∧ tb σ HZ Q) := by
  constructor
  intro pinsZ sZ σZ HZ Q IZ ⟨hs, hc, hF, ht⟩
  have look := (pe_var (X := (cxOf CXg X.prog X.w X.K X.mg X.base Ng qg sg g cdg X.A X.stack s H Eg).tr pn xe) (pos := p1) (i := i) hN hv hd hcd).run pinsZ sZ σZ HZ (fun v H1 => v = .ref f ∧ H1 = HZ) IZ ⟨.ref f, hs, rfl, rfl⟩
  apply wpAny_Call_Name_kw
  refine thn look fun u s1 ⟨v, H1, J, rv, ev, eH⟩ => ?_
  subst ev eH
  have eu : u = Value.ref f := rv
  subst eu
  obtain ⟨⟨pm, ctv, at_⟩, _, _⟩ := J.hok f _ hF
  rw [hlq, ← hcl] at at_
  apply PySem.W.callWith_F0 ⟨_, _, _, _, at_⟩
  have un : Un (frs X.stack) [] H H1 s.heap s1.heap := J.base
  obtain ⟨⟨oc, vs, t, hoc, hdc, hvc⟩, _, _⟩ := J.hok c' _ hc
  have run : codeAny (model X.prog X.w) (X.A.deeper (envOfC qg sg s.heap.objs.size g cdg)) (.call (.ref f) ⟨[], []⟩) (CR (L2.CX X.prog X.w) (envOfC qg sg s.heap.objs.size g cdg :: X.stack) X.prog X.w H1 s1 Q E) s1 := by
    apply PySem.W.kla_callFunE hr.depth at_ rfl L.co L.gen rfl ⟨c', oc, vs, t, rfl, hoc, hdc, by rw [← hlq]; exact hvc⟩
    refine wpAny_pure (wpAny_newFunctionEnv (fun y hy => (L.own y hy).2) (fun y hy => absurd hy (by simp)) (fun h1 hns hsb => ⟨J.nolimit.fresh _ hsb, ?_⟩) L.kind)
    have kp : ∀ b o, s1.heap.get? b = some o → h1.get? b = some o := fun b o e => hsb.extBut b o (Nat.ne_of_lt (Heap.lt_size e)) (Heap.get?_push_of_some _ e)
    have J2 : Inv (lamCx X (X.A.deeper (envOfC qg sg s.heap.objs.size g cdg)) (envOfC qg sg s.heap.objs.size g cdg :: X.stack) s1 H1 E scope f c') [] σ H1 { s1 with heap := h1, toks := s1.toks + ([] : List (Str × Value)).length } :=
      lam_start2 I L J.env0 hr.hd un hns kp
    refine PySem.W.kla_codeExpr (wpAny_mono ((hbody _ _ s1 H1 (hr.deeper _)).run [] _ _ H1 Q J2 ht) (fun v s' hq => ?_) fun e s' hq => hq)
    obtain ⟨w', H', J3, rv3, q⟩ := hq
    exact ⟨w', H', J3.os, J3.bare, J3.base, J3.hok, rv3, q⟩
  have out : Passes (L2.CX X.prog X.w) ((cxOf CXg X.prog X.w X.K X.mg X.base Ng qg sg g cdg X.A X.stack s H Eg).tr pn xe) E := passes_call tk hW
  apply wpAny_call
  refine codeAny_mono run fun r s' hq => ?_
  match r, hq with
  | .error e, hq => exact out pinsZ σZ H1 s1 e s' J hq
  | .ok (.ret u), hq => exact J.after hq
  | .ok .next, hq => exact hq.elim
  | .ok .brk, hq => exact hq.elim
  | .ok .cont, hq => exact hq.elim
/-- what the complaint def tells, from a lambda's reading at hand -/
theorem tell_read {g : Nat} {C : Co} {r : Env → Sto → R D} {anm : Nat → Str} {na : Nat} {l : List Hm} {σ : L2.St} {F H : Hp} {ρ : List Addr} {v : Env} {S : Sto} {Q : VK} (hK : X.K = Z.K) (hms : HmsIs Z anm C.hs l) (hxc : ∀ c fs, G.xat c = some fs → XcF X.K Z anm na c fs) (hx : ∀ c k fs, G.xat c = some fs → PySem.W.exmOne X.K (.ref (Z.xa c)) (.ref (Z.xa k)) = some (G.xsub c k)) (hr : ∀ d s v F ρ, G.rpr d = some s → Rep Z F ρ d v → reprL v = some (toS s))
    (hone : ∀ c fs, G.xat c = some fs → ∀ q ∈ C.hs, ∀ h ∈ q.2, ∀ f, (h = .fld f ∨ h = .rep f) → ∀ g ∈ fs, anm g = anm f → g = f) (he : EnvR Z F ρ v σ H) (hs : StoR Z F ρ S H)
    (hp : PostA Z W (match r v S with
        | .ok d S => R.ok (.tup [.str C.tag, d]) S
        | .ex c ds S => tellC G c ds S C.hs
        | .bad => .bad) (pV Z) F ρ σ H Q) : TTc X.K C.tag l (fun E => tG Z (fun cls d _ H => E cls d H) r (pV Z) σ) H Q := by
  refine ⟨F, ρ, v, S, he, hs, ?_⟩
  cases q : r v S with
  | bad => rw [q] at hp; exact hp
  | ok d S' =>
    rw [q] at hp
    intro b F' ρ' H' e2 s2 p2 p hpn
    have ex : Ext nO F' ρ' H' (upd F' p (.tup [.str (toS C.tag), b])) ρ' (upd H' p (.tup [.str (toS C.tag), b])) := Ext.laid hpn s2.le
    exact hp _ _ _ _ (e2.trans ex) (s2.laid hpn) (.tup (.inl (.inl upd_same)) (.cons .str (.cons (ex.rep p2) .nil)))
  | ex c ds S' =>
    rw [q] at hp
    intro cls dx F' ρ' H' e2 s2 x2
    cases ef : G.xat c with
    | none =>
      have hp : PostA Z W (tellC G c ds S' C.hs) (pV Z) F ρ σ H Q := hp
      rw [tell_none ef] at hp; exact hp.elim
    | some fs => exact tell_ask hK (hxc c) (fun k => hx c k fs ef) hr x2 s2 hms (hone c) (PostA.ext hp e2)
/-- x(e), x a complaint def, e a lambda that is told of -/
theorem act_call {TT : (XK → Hp → VK → Prop) → Hp → VK → Prop} {x a : Str} {g : Addr} {k : Nat} {pg : Arguments} {bg : List Stmt} {sg : Scope} {dV kV doc pm cdv ct oc : Value} {an od : Option Addr} {osl : Array (Option Value)} {Ng : List Str} {e : Expr} {te : TE} {p pos : Pos} {t : Nat → XK → TE} {ok : Nat → Expr → Scope → Prop}
    (hg : Gl X x) (hm : X.mg x = some (.ref g)) (hk : PySem.W.keepIn X.K (.ref g) = true) (lk : X.K.lookup g = some ⟨oc, od, .func (PySem.W.fnOf x x pg bg sg dV kV doc pm an cdv ct), osl⟩) (hcg : PySem.W.codeIn X.K cdv x = true) (hb : L2.Binds X.K (PySem.W.fnOf x x pg bg sg dV kV doc pm an cdv ct) [a] []) (Sg : FnScope Ng [a] sg) (hNg : Ng[0]? = some a) (hva : Vis sg a)
    (hG : GivesTo X Ng x sg g cdv bg a Z.lq TT) (hr : Room (k + 2) X.A) (hcl : X.env.cells = Z.cl) (hlq : Z.lq = X.env.qual ++ "<lambda>") (hL : ∀ n body scope, ok n body scope → LamS X.env.scope scope)
    (hbody : ∀ (n : Nat) (body : Expr) (scope : Scope), ok n body scope → ∀ (A : Around) (outer : List PySem.Env) (s : Shared) (H : Hp) (E : XK) (f c' : Addr), Room k (A.deeper (lamEnv X scope s.heap.objs.size f c')) → PE (lamCx X A outer s H E scope f c') body (t n E))
    (he : PE X e te) (hst : starEach [e] X.env = [(false, eval e X.env)]) (hdb : (x == ("__debug__" : Str)) = false) (hd : (a == ("__debug__" : Str)) = false) (hcd : (a == ("__classdict__" : Str)) = false) :
    PE X (.Call (.Name x p) [e] [] pos) (fun σ H Q => te σ H fun y H1 => ∃ n f c' body scope, y = .ref f ∧ ok n body scope ∧ H1 f = some (LamO Z f c' body scope) ∧ H1 c' = some (CodeO c' Z.lq) ∧ TT (fun E H' Q' => H' f = some (LamO Z f c' body scope) ∧ t n E σ H' Q') H1 Q) := by
  constructor
  intro pins s σ H Q I h
  apply wpAny_Call_Name_kw
  apply ld_glob I hg hm _ hdb
  refine PySem.W.callWith_K (h₀ := X.base) I.ok.mod.kin hk ?_ (by rw [hst]; rfl) (by rfl)
  rw [hst]
  refine Calls.spliced_cons (thn (he.run pins s σ H _ I h) fun u s1 ⟨y, H1, J, ry, n, f, c', body, scope, ey, hok, hF, hC, hq⟩ => ?_)
  subst ey
  have eu : u = Value.ref f := ry
  subst eu
  refine Calls.spliced_nil ⟨J.kIn, wpAny_call (codeAny_mono (R := CR C8.CX0 X.stack X.prog X.w H1 s1 Q C8.E0) ?_ fun r s2 hq => ?_)⟩
  · refine run_ofS (N := Ng) (ps := [a]) (us := [.ref f]) (vs := [.ref f]) lk hcg Sg hr J.env0 (hb s1 [.ref f] J.kIn rfl) (.cons rfl .nil) rfl fun hr' => ?_
    obtain ⟨t', ht', hq'⟩ := hG f c' s1 H1 Q (fun E H' Q' => H' f = some (LamO Z f c' body scope) ∧ t n E σ H' Q') (fun W pn xe E q1 q2 tk hW => act_f (i := 0) J (hL _ _ _ hok) hcl tk hW hr' hlq (fun A outer s H hr2 => hbody _ _ _ hok A outer s H E f c' hr2) hNg hva hd hcd) hC hq
    exact ⟨t', ht'.nox, hq'⟩
  · match r, hq with
    | .error e, hq => exact (show False from hq).elim
    | .ok (.ret u), hq => exact J.after hq
    | .ok .next, hq => exact hq.elim
    | .ok .brk, hq => exact hq.elim
    | .ok .cont, hq => exact hq.elim
end
end Mi

set_option Elab.async false
set_option linter.all false
set_option maxRecDepth 100000
set_option maxHeartbeats 4000000
/-! Mi, part 21: what is known ahead; carried into a comprehension's block. -/
namespace Mi
open PySem PySem.Spec PyProof.Rows L2
/-- the names of what a text may call -/
structure Mt where
  fnm : Nat → Option Str
  far : Nat → Nat → Bool
  cnm : Nat → Option Str
  car : Nat → Nat → Bool
  mnm : Nat → Option Str
  mar : Nat → Nat → Bool
  anm : Nat → Str
  na : Nat
  knm : Nat → Option Str
  gcd : Bool
  gnm : Nat → Option Str
  xnm : Nat → Option Str
  lam : Str → Bool
  own : Bool := false
  lmt : Nat → Expr → Scope → Bool := fun _ _ _ => false
/-- the block's names -/
structure Mx where
  N : List Str
  sc : Scope
  fn : Str → Bool
  q : Str
def blts : List Str := ["range", "len", "list", "tuple", "sorted", "set", "sum", "all", "max", "min", "int", "bool", "str", "dict", "isinstance", "enumerate", "zip", "repr", "abs", "any"]
/-- a complaint def -/
structure CoF (K : PySem.W.Frag) (mg : Str → Option Value) (Z : Ci) (G : Ga) (anm : Nat → Str) (g : Nat) (y : Str) : Prop where
  ex : ∃ (C : Co) (ga : Addr) (oc od : _) (osl : Array (Option Value)) (pg : Arguments) (sg : Scope) (dV kV doc pm cdv ct : Value) (an : Option Addr) (a : Str) (Ng : List Str) (hd : ExceptHandler) (hds : List ExceptHandler) (rest : List Stmt) (l : List Hm) (j1 j2 : Nat) (p1 p2 p3 p4 p5 p6 : Pos),
    G.co g = some C ∧ mg y = some (.ref ga) ∧ PySem.W.keepIn K (.ref ga) = true ∧
    K.lookup ga = some ⟨oc, od, .func (PySem.W.fnOf y y pg (.Try [.Return (some (.Tuple [.Constant (.str (toS C.tag)) j1 p1, .Call (.Name a p2) [] [] p3] j2 p4)) p5] (hd :: hds) [] [] p6 :: rest) sg dV kV doc pm an cdv ct), osl⟩ ∧
    PySem.W.codeIn K cdv y = true ∧ Binds K (PySem.W.fnOf y y pg (.Try [.Return (some (.Tuple [.Constant (.str (toS C.tag)) j1 p1, .Call (.Name a p2) [] [] p3] j2 p4)) p5] (hd :: hds) [] [] p6 :: rest) sg dV kV doc pm an cdv ct) [a] [] ∧
    FnScope Ng [a] sg ∧ Ng[0]? = some a ∧ Vis sg a ∧ Ng.Nodup ∧ sg.names.lookup ("repr" : Str) = some .globalImplicit ∧ HsOk mg Ng sg (hd :: hds) l ∧ RestIs rest ∧ HmsIs Z anm C.hs l ∧
    (a == ("__debug__" : Str)) = false ∧ (a == ("__classdict__" : Str)) = false ∧ (∀ c fs, G.xat c = some fs → ∀ q ∈ C.hs, ∀ h ∈ q.2, ∀ f, (h = .fld f ∨ h = .rep f) → ∀ g ∈ fs, anm g = anm f → g = f)
/-- an exception class that is raised -/
structure RaF (prog : Program) (K : PySem.W.Frag) (mg : Str → Option Value) (Z : Ci) (G : Ga) (c : Nat) (x : Str) : Prop where
  ex : ∃ (fI : Addr) (xs : List Str), XiF prog K (Z.xa c) fI xs ∧ xs ≠ [] ∧ Z.xn c = xs ∧ (∀ fs, G.xat c = some fs → fs.length = xs.length) ∧ PySem.W.findIn K (.ref (Z.xa c)) "__init__" = some (some (.ref fI)) ∧ PySem.W.typeIn K (.ref fI) = some (.type "function")
  at_ : mg x = some (.ref (Z.xa c))
structure GFb (X : Cx) (Z : Ci) (G : Ga) (T : Mt) : Prop where
  hK : X.K = Z.K
  units : X.A.units + 65 < cLine
  call : ∀ f x k, T.fnm f = some x → T.far f k = true → ∃ a, X.mg x = some (.ref a) ∧ PySem.W.keepIn X.K (.ref a) = true ∧ CalF X Z (G.call f) a k
  new : ∀ c x k, T.cnm c = some x → T.car c k = true → X.mg x = some (.ref (Z.ca c)) ∧ ∃ cl, G.cls c = some cl ∧ CalI X Z (G.call cl.init) c k
  cnm : ∀ c x, T.cnm c = some x → X.mg x = some (.ref (Z.ca c))
  mth : ∀ i y k, T.mnm i = some y → T.mar i k = true → MthF X Z G i y k
  con : ∀ i x, T.knm i = some x → ∃ d v u, G.con i = some d ∧ X.mg x = some u ∧ RelV v u ∧ ∀ F ρ, Rep Z F ρ d v
  blt : ∀ x ∈ blts, X.mg x = none
  gcd : T.gcd = true → X.mg "gcd" = some (.builtin "math.gcd")
  fld : ∀ c k, G.cls c = some k → ClsF X Z T.anm T.na c k
  ops : ∀ o, OpsF X Z G o
  ops1 : OpsF (X1 X) Z G .add
  iop : ∀ o, (∃ c k f, G.cls c = some k ∧ k.rop o = some f) → IntOp o
  neg : NegF X Z G
  isf : IsF X Z G
  room : Room 1 X.A
  co : ∀ g y, T.gnm g = some y → CoF X.K X.mg Z G T.anm g y
  xf : ∀ c fs, G.xat c = some fs → XcF X.K Z T.anm T.na c fs
  xs : ∀ c k fs, G.xat c = some fs → PySem.W.exmOne X.K (.ref (Z.xa c)) (.ref (Z.xa k)) = some (G.xsub c k)
  rpr : ∀ d s v F ρ, G.rpr d = some s → Rep Z F ρ d v → reprL v = some (toS s)
  ra : ∀ c x, T.xnm c = some x → RaF X.prog X.K X.mg Z G c x
  eqf : EqF X Z G
/-- what a text with lambdas asks: the def's table, room for the lambda's frame, the same known in it -/
structure LmF (X : Cx) (Z : Ci) (G : Ga) (T : Mt) : Prop where
  tab : ∃ c P, LamX.TabB X.base X.mg c P ∧ X.env.code = .ref c ∧ (P, X.env.qual ++ "<lambda>") ∈ Z.tb ∧ ∀ p ∈ Z.tb, p.1 = P → p.2 = X.env.qual ++ "<lambda>"
  in_ : ∃ k, Room (k + 2) X.A ∧ ∀ X1 : Cx, X1.prog = X.prog → X1.w = X.w → X1.K = X.K → X1.mg = X.mg → X1.base = X.base → Room k X1.A → GFb X1 Z G T
/-- what a def with lambdas of its own knows of them -/
structure OwF (X : Cx) (Z : Ci) (G : Ga) (T : Mt) : Prop where
  cells : X.env.cells = Z.cl
  lq : Z.lq = X.env.qual ++ "<lambda>"
  lg : ∀ k b s, Z.lg k b s ↔ T.lmt k b s = true
  lam : T.lam X.env.qual = true
  run : ∀ k b s, T.lmt k b s = true → LamX.LamS X.env.scope s ∧ ∀ X1 : Cx, X1.N = X.N → X1.env.scope = s → X1.fn = (fun _ => false) → X1.calm = true → X1.env.qual = X.env.qual ++ "<lambda>" ++ ".<locals>." → GFb X1 Z G T → ∀ W1 : WX, L2.Takes X1 W1 → PE X1 b (tG Z W1 (G.lam k) (pV Z))
structure GF (X : Cx) (Z : Ci) (G : Ga) (T : Mt) : Prop extends GFb X Z G T where
  lam : T.lam X.env.qual = true → LmF X Z G T
  owf : T.own = true → X.fn ("" : Str) = true → OwF X Z G T
structure Same (X X' : Cx) : Prop where
  e1 : X'.prog = X.prog
  e2 : X'.w = X.w
  e3 : X'.K = X.K
  e4 : X'.mg = X.mg
  e5 : X'.base = X.base
  e6 : X'.A = X.A
  e7 : X'.env.qual = X.env.qual
  e8 : X'.env.code = X.env.code
section
variable {X X' : Cx} {Z : Ci} {G : Ga} {T : Mt} {W : WX}
theorem CalF.conv {call : List D → Sto → R D} {a : Addr} {k : Nat} (e : Same X X') (h : CalF X Z call a k) : CalF X' Z call a k := by
  obtain ⟨e1, e2, e3, e4, e5, e6, _, _⟩ := e
  obtain ⟨h⟩ := h
  exact ⟨by rw [e1, e2, e3, e4, e5, e6]; exact h⟩
theorem CalI.conv {call : List D → Sto → R D} {c : Nat} {k : Nat} (e : Same X X') (h : CalI X Z call c k) : CalI X' Z call c k := by
  obtain ⟨e1, e2, e3, e4, e5, e6, _, _⟩ := e
  obtain ⟨h⟩ := h
  exact ⟨by rw [e1, e2, e3, e4, e5, e6]; exact h⟩
theorem OpsF.conv {o : Bi} (e : Same X X') (h : OpsF X Z G o) : OpsF X' Z G o := by
  have e3 := e.e3
  refine ⟨fun c k f h1 h2 => ?_, fun c k f d k' f' h1 h2 h3 h4 h5 => by rw [e3]; exact h.two c k f d k' f' h1 h2 h3 h4 h5, fun c k f h1 h2 => ?_, by rw [e3]; exact h.int⟩
  · obtain ⟨g1, ⟨a, g2, g3⟩, g4⟩ := h.one c k f h1 h2
    rw [e3]
    exact ⟨g1, ⟨a, g2, g3.conv e⟩, g4⟩
  · obtain ⟨g1, ⟨a, b, g2, g3, g4, g5⟩, g6⟩ := h.rev c k f h1 h2
    rw [e3]
    exact ⟨g1, ⟨a, b, g2, g3, g4, g5.conv e⟩, g6⟩
theorem Same.x1 (e : Same X X') : Same (X1 X) (X1 X') := ⟨e.e1, e.e2, e.e3, e.e4, e.e5, by show X'.A.in1 = X.A.in1; rw [e.e6], e.e7, e.e8⟩
theorem GFb.conv (e : Same X X') (h : GFb X Z G T) : GFb X' Z G T := by
  have e3 := e.e3
  have e4 := e.e4
  refine ⟨e3.trans h.hK, by rw [e.e6]; exact h.units, fun f x k h1 h2 => ?_, fun c x k h1 h2 => ?_, fun c x h1 => by rw [e4]; exact h.cnm c x h1, fun i y k h1 h2 => ?_, fun i x h1 => by rw [e4]; exact h.con i x h1, fun x hx => by rw [e4]; exact h.blt x hx, fun g => by rw [e4]; exact h.gcd g, fun c k h1 => ?_, fun o => (h.ops o).conv e, h.ops1.conv e.x1, h.iop, ⟨fun c k f h1 h2 => ?_⟩, ?_, by rw [e.e6]; exact h.room, fun g y h1 => by rw [e3, e4]; exact h.co g y h1, fun c fs h1 => by rw [e3]; exact h.xf c fs h1, fun c k fs h1 => by rw [e3]; exact h.xs c k fs h1, h.rpr, fun c x h1 => by rw [e.e1, e3, e4]; exact h.ra c x h1, ?_⟩
  · obtain ⟨a, g1, g2, g3⟩ := h.call f x k h1 h2
    rw [e3, e4]
    exact ⟨a, g1, g2, g3.conv e⟩
  · obtain ⟨g1, cl, g2, g3⟩ := h.new c x k h1 h2
    rw [e4]
    exact ⟨g1, cl, g2, g3.conv e⟩
  · obtain ⟨g1, g2⟩ := h.mth i y k h1 h2
    refine ⟨g1, fun c k f h1 h2 => ?_⟩
    obtain ⟨a, k1, k2, k3, k4⟩ := g2 c k f h1 h2
    rw [e3]
    exact ⟨a, k1, k2, k3, k4.conv e⟩
  · obtain ⟨g1, g2, g3, g4, g5, g6⟩ := h.fld c k h1
    exact ⟨g1, g2, by rw [e3]; exact g3, by rw [e3]; exact g4, g5, g6⟩
  · obtain ⟨a, g1, g2, g3⟩ := h.neg.one c k f h1 h2
    rw [e3]
    exact ⟨a, g1, g2, g3.conv e⟩
  · obtain ⟨g1, g2, g3⟩ := h.isf
    exact ⟨by rw [e3]; exact g1, by rw [e3]; exact g2, by rw [e3]; exact g3⟩
  · obtain ⟨kk, g1, g2⟩ := h.eqf.ex
    refine ⟨kk, by rw [e.e6]; exact g1, fun c k f h1 h2 => ?_⟩
    rw [e.e1, e.e2, e3, e4, e.e5]
    exact g2 c k f h1 h2
theorem GF.conv (e : Same X X') (hf : X'.fn ("" : Str) = false) (h : GF X Z G T) : GF X' Z G T := by
  refine ⟨h.toGFb.conv e, fun hl => ?_, fun _ z => by rw [hf] at z; cases z⟩
  rw [e.e7] at hl
  obtain ⟨⟨c, P, h1, h2, h3, h4⟩, k, h5, h6⟩ := h.lam hl
  refine ⟨⟨c, P, by rw [e.e4, e.e5]; exact h1, by rw [e.e8]; exact h2, by rw [e.e7]; exact h3, by rw [e.e7]; exact h4⟩, k, by rw [e.e6]; exact h5, fun X1 k1 k2 k3 k4 k5 => h6 X1 (k1.trans e.e1) (k2.trans e.e2) (k3.trans e.e3) (k4.trans e.e4) (k5.trans e.e5)⟩
theorem GF.op (h : GF X Z G T) (o : Bi) : OpR X (binaryOp (opO o)) (rB Z G o) := opr_all (opp_all h.hK o) (opi_all (W := W0) takes0 (h.ops o) (h.iop o))
theorem GF.op1 (h : GF X Z G T) : OpR (X1 X) (binaryOp .Add) (rB Z G .add) := opr_all (o := .add) (opp_all (X := X1 X) h.hK .add) (opi_all (W := W0) takes0 h.ops1 (h.iop .add))
theorem GF.cmpG (h : GF X Z G T) (o : Cm) : OpR X (compareOp (cmO o)) (rCG Z G o) := opc_gen takes0 h.hK (fun o => opc_all h.hK h.units o) h.eqf o
theorem GF.cmp (h : GF X Z G T) (o : Cm) : OpR X (compareOp (cmO o)) (rC Z o) := opc_all h.hK h.units o
/-- the block at hand is the one that is told -/
structure Cok (X : Cx) (m : Mx) : Prop where
  N : X.N = m.N
  nd : m.N.Nodup
  sc : X.env.scope = m.sc
  fn : X.fn = m.fn
  calm : X.calm = true
  q : X.env.qual = m.q
def visB (m : Mx) (x : Str) : Bool := match m.sc.names.lookup x with
  | some .local => true
  | some .cell => true
  | some .free => true
  | _ => false
def dbg (x : Str) : Bool := !(x == ("__debug__" : Str)) && !(x == ("__classdict__" : Str))
/-- a local name, read -/
def nmB (m : Mx) (i : Nat) (x : Str) : Bool := decide (m.N[i]? = some x) && visB m x && dbg x
/-- a local name, stored -/
def stB (m : Mx) (i : Nat) (x : Str) : Bool := decide (m.N[i]? = some x) && (match m.sc.names.lookup x with
  | some .local => true
  | some .cell => m.fn x
  | _ => false)
/-- a global name -/
def gnB (m : Mx) (x : Str) : Bool := (match m.sc.names.lookup x with
  | some .globalImplicit => true
  | _ => false) && dbg x
theorem visB_ok {m : Mx} {x : Str} (c : Cok X m) (h : visB m x = true) : Vis X.env.scope x := by
  unfold visB at h
  unfold Vis
  rw [c.sc]
  split at h
  · rename_i e; exact .inl e
  · rename_i e; exact .inr (.inl e)
  · rename_i e; exact .inr (.inr e)
  · cases h
theorem dbg_ok {x : Str} (h : dbg x = true) : (x == ("__debug__" : Str)) = false ∧ (x == ("__classdict__" : Str)) = false := by
  simpa [dbg] using h
theorem nmB_ok {m : Mx} {i : Nat} {x : Str} (c : Cok X m) (h : nmB m i x = true) : X.N[i]? = some x ∧ Vis X.env.scope x ∧ (x == ("__debug__" : Str)) = false ∧ (x == ("__classdict__" : Str)) = false := by
  simp only [nmB, Bool.and_eq_true, decide_eq_true_eq] at h
  exact ⟨by rw [c.N]; exact h.1.1, visB_ok c h.1.2, dbg_ok h.2⟩
theorem stB_ok {m : Mx} {i : Nat} {x : Str} (c : Cok X m) (h : stB m i x = true) : X.N[i]? = some x ∧ L2.Loc X.env.scope x ∧ (X.fn x = true ∨ X.env.scope.names.lookup x = some .local) := by
  simp only [stB, Bool.and_eq_true, decide_eq_true_eq] at h
  obtain ⟨h1, h2⟩ := h
  unfold L2.Loc
  rw [c.N, c.sc, c.fn]
  split at h2
  · rename_i e; exact ⟨h1, .inl e, .inr e⟩
  · rename_i e; exact ⟨h1, .inr e, .inl h2⟩
  · cases h2
theorem gnB_ok {m : Mx} {x : Str} (c : Cok X m) (h : gnB m x = true) : Gl X x ∧ (x == ("__debug__" : Str)) = false := by
  simp only [gnB, Bool.and_eq_true] at h
  obtain ⟨h1, h2⟩ := h
  refine ⟨?_, (dbg_ok h2).1⟩
  unfold Gl Env.kindOf
  rw [c.sc]
  split at h1
  · assumption
  · cases h1
end
end Mi

set_option Elab.async false
set_option linter.all false
set_option maxRecDepth 100000
set_option maxHeartbeats 8000000
/-! Mi, part 22: the matcher, expressions. -/
namespace Mi
open PySem PySem.Spec PyProof.Rows L2
def mBi : Bi → Operator → Bool
  | .add, .Add => true | .sub, .Sub => true | .mul, .Mult => true | .fdiv, .FloorDiv => true | .mod, .Mod => true | .pow, .Pow => true
  | .band, .BitAnd => true | .bor, .BitOr => true | .bxor, .BitXor => true | .shl, .LShift => true | .shr, .RShift => true
  | _, _ => false
theorem mBi_ok : ∀ {o : Bi} {p : Operator}, mBi o p = true → p = opO o := by
  intro o p h
  cases o <;> cases p <;> first | rfl | cases h
def mCm : Cm → CmpOp → Bool
  | .lt, .Lt => true | .le, .LtE => true | .gt, .Gt => true | .ge, .GtE => true | .eq, .Eq => true | .ne, .NotEq => true | .isin, .In => true | .notin, .NotIn => true
  | _, _ => false
theorem mCm_ok : ∀ {o : Cm} {p : CmpOp}, mCm o p = true → p = cmO o := by
  intro o p h
  cases o <;> cases p <;> first | rfl | cases h
def noIf : Expr → Bool
  | .IfExp .. => false
  | _ => true
/-- targets -/
def gPs : List Nat → TGs
  | [] => gNil
  | i :: is => gCons (gName i) (gPs is)
def gP (Z : Ci) : Pt → TG
  | .nm i => gName i
  | .tp is => gTup Z.K is.length (gPs is)
def mPs (m : Mx) : List Nat → List Expr → Bool
  | [], [] => true
  | i :: is, e :: es => (match e with
    | .Name x _ => stB m i x
    | _ => false) && mPs m is es
  | _, _ => false
def mP (m : Mx) : Pt → Expr → Bool
  | .nm i, e => (match e with
    | .Name x _ => stB m i x
    | _ => false)
  | .tp is, e => (match e with
    | .Tuple es _ _ => mPs m is es
    | _ => false)
def tyN : Ty → Option String
  | .int => some "int"
  | .bool => some "bool"
  | .str => some "str"
  | .list => some "list"
  | .tuple => some "tuple"
  | .dict => some "dict"
  | .cls _ => none
def mTy (T : Mt) (m : Mx) (t : Ty) (e : Expr) : Bool := match e with
  | .Name x _ => gnB m x && (match t with
    | .cls c => decide (T.cnm c = some x)
    | t => (match tyN t with
      | some n => decide (x = Str.ofString n)
      | none => false))
  | _ => false
def mTys (T : Mt) (m : Mx) : List Ty → List Expr → Bool
  | [], [] => true
  | t :: ts, e :: es => mTy T m t e && mTys T m ts es
  | _, _ => false
/-- a built-in's name -/
def bn (m : Mx) (x : Str) (n : String) : Bool := decide (x = Str.ofString n) && gnB m x
def ownL (m : Mx) (own : List Nat) : List (Str × Nat) := own.map fun i => ((m.N[i]?).getD "", i)
/-- a comprehension's block -/
def blkM (m : Mx) (sc : Scope) : Mx := { N := m.N, sc := relS sc m.sc, fn := fun x => sc.names.lookup x == some .cell, q := m.q }
/-- no name without signs -/
def noNm (sc : Scope) : Bool := !(sc.names.lookup ("" : Str) == some .cell)
def noPar : Arguments → Bool
  | ⟨[], [], none, [], [], none, []⟩ => true
  | _ => false
/-- a lambda's block -/
def lamM (m : Mx) (sc : Scope) : Mx := { N := m.N, sc := sc, fn := fun _ => false, q := m.q ++ "<lambda>" ++ ".<locals>." }

/-- a walk that gives pairs goes to a tuple of names -/
def tgOk : Wk → Expr → Bool
  | .enum _, tg => (match tg with
    | .Tuple .. => true
    | _ => false)
  | .zip _ _, tg => (match tg with
    | .Tuple .. => true
    | _ => false)
  | _, _ => true
mutual
def mE (T : Mt) (m : Mx) : Ex → Expr → Bool
  | .var i, x => (match x with
    | .Name x _ => nmB m i x
    | _ => false)
  | .int n, x => (match x with
    | .Constant (.int k) _ _ => decide (n = k)
    | _ => false)
  | .bl b, x => (match x with
    | .Constant (.bool k) _ _ => decide (b = k)
    | _ => false)
  | .non, x => (match x with
    | .Constant .none _ _ => true
    | _ => false)
  | .str s, x => (match x with
    | .Constant (.str x) _ _ => decide (x = toS s)
    | _ => false)
  | .con k, x => (match x with
    | .Name x _ => gnB m x && decide (T.knm k = some x)
    | _ => false)
  | .tup es, x => (match x with
    | .Tuple as _ _ => mA T m es as
    | _ => false)
  | .lst es, x => (match x with
    | .List as _ => mA T m es as
    | _ => false)
  | .neg a, x => (match x with
    | .UnaryOp .USub x _ => mE T m a x
    | _ => false)
  | .not a, x => (match x with
    | .UnaryOp .Not x _ => mE T m a x && noIf x
    | _ => false)
  | .bin o a b, x => (match x with
    | .BinOp x op y _ => mBi o op && mE T m a x && mE T m b y
    | _ => false)
  | .cmp o a b, x => (match x with
    | .Compare x [op] [y] _ => mCm o op && mE T m a x && mE T m b y && notSet y
    | _ => false)
  | .chn o p a b c, x => (match x with
    | .Compare x [op, oq] [y, z] _ => mCm o op && mCm p oq && mE T m a x && mE T m b y && mE T m c z && notSet y && notSet z
    | _ => false)
  | .isN a, x => (match x with
    | .Compare x [.Is] [.Constant .none _ _] _ => mE T m a x
    | _ => false)
  | .isNN a, x => (match x with
    | .Compare x [.IsNot] [.Constant .none _ _] _ => mE T m a x
    | _ => false)
  | .and es, x => (match x with
    | .BoolOp .And (a :: as) _ => mT T m es (a :: as)
    | _ => false)
  | .or es, x => (match x with
    | .BoolOp .Or (a :: as) _ => mT T m es (a :: as)
    | _ => false)
  | .ife c a b, x => (match x with
    | .IfExp x y z _ => mE T m c x && noIf x && mE T m a y && mE T m b z
    | _ => false)
  | .idx s i, x => (match x with
    | .Subscript a b _ => mQ T m s a && mE T m i b && notSlc b
    | _ => false)
  | .slc s lo hi, x => (match x with
    | .Subscript a (.Slice l h none _) _ => mQ T m s a && mO T m lo l && mO T m hi h
    | _ => false)
  | .rev s, x => (match x with
    | .Subscript a (.Slice none none (some (.UnaryOp .USub (.Constant (.int k) _ _) _)) _) _ => mQ T m s a && decide (k = 1)
    | _ => false)
  | .fld a f, x => (match x with
    | .Attribute x y _ => mE T m a x && decide (f < T.na) && decide (T.anm f = y) && notCall0 x
    | _ => false)
  | .sfl i f, x => (match x with
    | .Attribute (.Name x _) y _ => nmB m i x && decide (f < T.na) && decide (T.anm f = y)
    | _ => false)
  | .call f es, x => (match x with
    | .Call (.Name x _) as [] _ => gnB m x && decide (T.fnm f = some x) && T.far f (exN es) && mA T m es as
    | _ => false)
  | .new c es, x => (match x with
    | .Call (.Name x _) as [] _ => gnB m x && decide (T.cnm c = some x) && T.car c (exN es) && mA T m es as
    | _ => false)
  | .mth i a es, x => (match x with
    | .Call (.Attribute o y ap) as [] pos => decide (T.mnm i = some y) && T.mar i (exN es) && notCall0 o && decide (as.length < 29) && (ap.endLine == pos.line) && mE T m a o && mA T m es as
    | _ => false)
  | .len s, x => (match x with
    | .Call (.Name x _) [a] [] _ => bn m x "len" && mQ T m s a && notStar a
    | _ => false)
  | .listOf s, x => (match x with
    | .Call (.Name x _) [a] [] _ => bn m x "list" && mQ T m s a && notStar a
    | _ => false)
  | .tupOf s, x => (match x with
    | .Call (.Name x _) [a] [] _ => bn m x "tuple" && mQ T m s a && notStar a
    | _ => false)
  | .sum s, x => (match x with
    | .Call (.Name x _) [a] [] _ => bn m x "sum" && mQ T m s a && notStar a
    | _ => false)
  | .all s, x => (match x with
    | .Call (.Name x _) [a] [] _ => bn m x "all" && mQ T m s a && notStar a
    | _ => false)
  | .sorted s, x => (match x with
    | .Call (.Name x _) [a] [] _ => bn m x "sorted" && mQ T m s a && notStar a
    | _ => false)
  | .lenSet s, x => (match x with
    | .Call (.Name x _) [.Call (.Name y _) [a] [] _] [] _ => bn m x "len" && bn m y "set" && mQ T m s a && notStar a
    | _ => false)
  | .max2 a b, x => (match x with
    | .Call (.Name x _) [y, z] [] _ => bn m x "max" && mE T m a y && mE T m b z && notStar y && notStar z
    | _ => false)
  | .min2 a b, x => (match x with
    | .Call (.Name x _) [y, z] [] _ => bn m x "min" && mE T m a y && mE T m b z && notStar y && notStar z
    | _ => false)
  | .intOf a, x => (match x with
    | .Call (.Name x _) [y] [] _ => bn m x "int" && mE T m a y && notStar y
    | _ => false)
  | .gcd a b, x => (match x with
    | .Call (.Name x _) [y, z] [] _ => bn m x "gcd" && T.gcd && mE T m a y && mE T m b z && notStar y && notStar z
    | _ => false)
  | .isI a ts b, x => (match x with
    | .Call (.Name x _) [y, c] [] _ => bn m x "isinstance" && mE T m a y && notStar y && (match b with
      | false => (match ts with
        | [t] => mTy T m t c
        | _ => false)
      | true => (match c with
        | .Tuple es _ _ => mTys T m ts es && decide (ts.length ≤ 100)
        | _ => false))
    | _ => false)
  | .lamc g e, x => (match x with
    | .Call (.Name x _) [.Lambda params body scope _] [] _ => gnB m x && decide (T.gnm g = some x) && T.lam m.q && !T.lam (m.q ++ "<lambda>" ++ ".<locals>.") && noPar params && LamX.lamSB m.sc scope && mE T (lamM m scope) e body
    | _ => false)
  | .lamv k, x => (match x with
    | .Lambda params body scope _ => m.fn ("" : Str) && T.own && noPar params && T.lmt k body scope
    | _ => false)
  | .actc g e, x => (match x with
    | .Call (.Name x _) [y] [] _ => m.fn ("" : Str) && T.own && gnB m x && decide (T.gnm g = some x) && mE T m e y && notStar y
    | _ => false)
  | .maxL s, x => (match x with
    | .Call (.Name x _) [a] [] _ => bn m x "max" && mQ T m s a && notStar a
    | _ => false)
  | .minL s, x => (match x with
    | .Call (.Name x _) [a] [] _ => bn m x "min" && mQ T m s a && notStar a
    | _ => false)
  | .anyL s, x => (match x with
    | .Call (.Name x _) [a] [] _ => bn m x "any" && mQ T m s a && notStar a
    | _ => false)
  | .lsR1 a, x => (match x with
    | .Call (.Name x _) [.Call (.Name z _) [y] [] _] [] _ => bn m x "list" && bn m z "range" && mE T m a y && notStar y
    | _ => false)
  | .lsR2 a b, x => (match x with
    | .Call (.Name x _) [.Call (.Name z _) [y, w] [] _] [] _ => bn m x "list" && bn m z "range" && mE T m a y && mE T m b w && notStar y && notStar w
    | _ => false)
  | .cat a b, x => (match x with
    | .BinOp x .Add y _ => mE T m a x && mE T m b y
    | _ => false)
  | .reps a b, x => (match x with
    | .BinOp x .Mult y _ => mE T m a x && mE T m b y
    | _ => false)
  | .abs a, x => (match x with
    | .Call (.Name x _) [y] [] _ => bn m x "abs" && mE T m a y && notStar y
    | _ => false)
  | .repr a, x => (match x with
    | .Call (.Name x _) [y] [] _ => bn m x "repr" && mE T m a y && notStar y
    | _ => false)
  | .dget a k, x => (match x with
    | .Subscript x (.Constant (.str y) _ _) _ => mE T m a x && decide (y = toS k)
    | _ => false)
  | .disp ks es, x => (match x with
    | .Dict (k :: keys) vals _ => mD T m es ks (k :: keys) vals && decide ((k :: keys).length ≤ 15)
    | _ => false)
  | .comp e own p it c, x => (match x with
    | .ListComp elt [⟨tg, iter, ifs, z⟩] sc _ => noNm sc && decide (z = 0) && (mW T m it iter && tgOk it tg) && notSet iter && blkC m.N m.sc sc (ownL m own) && (slotsP p).all (fun i => own.contains i) && mP (blkM m sc) p tg && mC T (blkM m sc) c ifs && mE T (blkM m sc) e elt
    | _ => false)
def mA (T : Mt) (m : Mx) : Exs → List Expr → Bool
  | .nil, as => (match as with
    | [] => true
    | _ => false)
  | .cons e es, as => (match as with
    | a :: as => mE T m e a && notStar a && mA T m es as
    | _ => false)
def mT (T : Mt) (m : Mx) : Exs → List Expr → Bool
  | .nil, as => (match as with
    | [] => true
    | _ => false)
  | .cons e es, as => (match as with
    | a :: as => mE T m e a && noIf a && mT T m es as
    | _ => false)
def mD (T : Mt) (m : Mx) : Exs → List (List Nat) → List (Option Expr) → List Expr → Bool
  | .nil, ks, keys, vals => ks.isEmpty && keys.isEmpty && vals.isEmpty
  | .cons e es, ks, keys, vals => (match ks, keys, vals with
    | k :: ks, some (.Constant (.str x) _ _) :: keys, v :: vals => decide (x = toS k) && mE T m e v && mD T m es ks keys vals
    | _, _, _ => false)
def mQ (T : Mt) (m : Mx) : Sq → Expr → Bool
  | .own i, x => (match x with
    | .Name x _ => nmB m i x
    | _ => false)
  | .ex e, x => mE T m e x
def mO (T : Mt) (m : Mx) : Exo → Option Expr → Bool
  | .no, x => x.isNone
  | .yes e, x => (match x with
    | some x => mE T m e x
    | none => false)
def mC (T : Mt) (m : Mx) : Exo → List Expr → Bool
  | .no, as => (match as with
    | [] => true
    | _ => false)
  | .yes e, as => (match as with
    | [a] => mE T m e a && noIf a
    | _ => false)
def mW (T : Mt) (m : Mx) : Wk → Expr → Bool
  | .seq s, x => mQ T m s x
  | .rng1 a, x => (match x with
    | .Call (.Name x _) [y] [] _ => bn m x "range" && mE T m a y && notStar y
    | _ => false)
  | .rng2 a b, x => (match x with
    | .Call (.Name x _) [y, z] [] _ => bn m x "range" && mE T m a y && mE T m b z && notStar y && notStar z
    | _ => false)
  | .enum s, x => (match x with
    | .Call (.Name x _) [a] [] _ => bn m x "enumerate" && mQ T m s a && notStar a
    | _ => false)
  | .zip s t, x => (match x with
    | .Call (.Name x _) [a, b] [] _ => bn m x "zip" && mQ T m s a && mQ T m t b && notStar a && notStar b
    | _ => false)
end
def noOwnW : Wk → Bool
  | .seq s => noOwn s
  | .enum s => noOwn s
  | .zip s t => noOwn s && noOwn t
  | _ => true

theorem gPs_run {Z : Ci} : ∀ {is : List Nat} {ds : List D} {vs : List V} {v w : Env} {σ : L2.St} {F H : Hp} {ρ : List Addr} {Q : L2.St → Hp → Prop}, setAll is ds v = some w → Reps Z F ρ ds vs → EnvR Z F ρ v σ H →
    (∀ σ', EnvR Z F ρ w σ' H → But is σ σ' → Q σ' H) → gPs is vs σ H Q
  | [], ds, vs, v, w, σ, F, H, ρ, Q, hw, r, he, k => by
    cases r with
    | nil => cases hw; exact ⟨rfl, k _ he ⟨rfl, fun _ _ => rfl⟩⟩
    | cons _ _ => cases hw
  | i :: is, ds, vs, v, w, σ, F, H, ρ, Q, hw, r, he, k => by
    cases r with
    | nil => cases hw
    | cons r1 r2 =>
      refine ⟨_, _, rfl, ?_⟩
      exact gPs_run (Q := Q) hw r2 (he.put r1) fun σ' he' hb => k σ' he' ⟨by rw [← hb.1, List.length_set], fun j hj => by
        have hj' : j ≠ i ∧ j ∉ is := by simpa using hj
        rw [hb.2 j hj'.2, List.getElem?_set_ne (Ne.symm hj'.1)]⟩
theorem setAll_len : ∀ {is : List Nat} {l : List D} {v w : Env}, setAll is l v = some w → l.length = is.length
  | [], [], _, _, _ => rfl
  | [], _ :: _, _, _, h => by cases h
  | _ :: _, [], _, _, h => by cases h
  | i :: is, _ :: l, v, w, h => by simp [setAll_len (show setAll is l _ = some w from h)]
theorem stP_all {Z : Ci} : ∀ p, StP Z p (gP Z p)
  | .nm i => fun d v w x σ F H ρ S Q hb r he hs k => by
    cases hb
    exact k _ (he.put r) ⟨by rw [List.length_set], fun j hj => List.getElem?_set_ne (fun e => hj (by simp [slotsP, e]))⟩
  | .tp is => fun d v w x σ F H ρ S Q hb r he hs q => by
    cases r with
    | @tup a vs l h1 r => exact ⟨a, vs, rfl, seqT hs.le h1, by rw [← r.len]; exact setAll_len (show setAll is l v = some w from hb), gPs_run (show setAll is l v = some w from hb) r he fun σ' he' hb' => q σ' he' hb'⟩
    | _ => cases hb
section
variable {X : Cx} {Z : Ci} {G : Ga} {T : Mt} {W : WX} {m : Mx}
theorem mPs_ok (c : Cok X m) : ∀ {is : List Nat} {es : List Expr}, mPs m is es = true → TupOk X is es (gPs is)
  | [], [], _ => .nil
  | i :: is, e :: es, h => by
    simp only [mPs, Bool.and_eq_true] at h
    obtain ⟨h1, h2⟩ := h
    split at h1
    · obtain ⟨g1, g2, g3⟩ := stB_ok c h1
      exact .cons g1 g2 g3 (mPs_ok c h2)
    · cases h1
  | [], _ :: _, h => by cases h
  | _ :: _, [], h => by cases h
theorem mP_ok (c : Cok X m) (hG : GF X Z G T) {p : Pt} {e : Expr} (h : mP m p e = true) : PG X e (gP Z p) ∧ StP Z p (gP Z p) := by
  have nd : X.N.Nodup := by rw [c.N]; exact c.nd
  cases p with
  | nm i =>
    simp only [mP] at h
    split at h
    · obtain ⟨g1, g2, g3⟩ := stB_ok c h
      exact okP_nm nd g1 g2 g3
    · cases h
  | tp is =>
    simp only [mP] at h
    split at h
    · have t := mPs_ok c h
      have := okP_tp (Z := Z) (k := 0) (pos := default) hG.hK nd c.calm t
      rename_i es kk pos
      have r := okP_tp (Z := Z) (k := kk) (pos := pos) hG.hK nd c.calm t
      unfold OkP at r
      rw [show gP Z (.tp is) = gTup X.K is.length (gPs is) by rw [hG.hK]; rfl]
      exact r
    · cases h
theorem bn_ok (c : Cok X m) {x : Str} {n : String} (h : bn m x n = true) : x = Str.ofString n ∧ Gl X x := by
  simp only [bn, Bool.and_eq_true, decide_eq_true_eq] at h
  exact ⟨h.1, (gnB_ok c h.2).1⟩
theorem mTy_ok (c : Cok X m) (hG : GF X Z G T) {t : Ty} {e : Expr} (h : mTy T m t e = true) : OkTy X Z t e ∧ notStar e = true := by
  unfold mTy at h
  split at h
  · rename_i x pos
    simp only [Bool.and_eq_true] at h
    obtain ⟨h1, h2⟩ := h
    obtain ⟨g1, g2⟩ := gnB_ok c h1
    refine ⟨?_, rfl⟩
    unfold OkTy
    cases t with
    | cls k =>
      simp only [decide_eq_true_eq] at h2
      exact pe_glob g1 (hG.cnm k x h2) rfl g2
    | _ =>
      simp only [tyN, decide_eq_true_eq] at h2
      subst h2
      exact pe_bltn g1 (hG.blt _ (by decide)) (by decide +kernel) rfl (by decide) (by decide)
  · cases h
theorem mTys_ok (c : Cok X m) (hG : GF X Z G T) : ∀ {ts : List Ty} {es : List Expr}, mTys T m ts es = true → OkTys X Z ts es
  | [], [], _ => trivial
  | t :: ts, e :: es, h => by
    simp only [mTys, Bool.and_eq_true] at h
    obtain ⟨g1, g2⟩ := mTy_ok (Z := Z) c hG h.1
    exact ⟨g1, star_cons g2, mTys_ok c hG h.2⟩
  | [], _ :: _, h => by cases h
  | _ :: _, [], h => by cases h
theorem blk_cok (c : Cok X m) {s : Shared} {H : Hp} {sc : Scope} {cl : List (Str × Addr)} {C : Addr} {fp : List Addr} : Cok (X.blk s H sc (compEnvC sc cl C X.env) fp) (blkM m sc) :=
  ⟨c.N, c.nd, by show relS sc X.env.scope = relS sc m.sc; rw [c.sc], rfl, c.calm, c.q⟩
theorem blk_fn {s : Shared} {H : Hp} {sc : Scope} {cl : List (Str × Addr)} {C : Addr} {fp : List Addr} (h : noNm sc = true) : (X.blk s H sc (compEnvC sc cl C X.env) fp).fn ("" : Str) = false := by
  show (sc.names.lookup ("" : Str) == some .cell) = false
  unfold noNm at h
  simpa using h
theorem blk_same {s : Shared} {H : Hp} {sc : Scope} {cl : List (Str × Addr)} {C : Addr} {fp : List Addr} : Same X (X.blk s H sc (compEnvC sc cl C X.env) fp) := ⟨rfl, rfl, rfl, rfl, rfl, rfl, rfl, rfl⟩
theorem bl (hG : GF X Z G T) (n : String) (h : Str.ofString n ∈ blts) : X.mg (Str.ofString n) = none := hG.blt _ h
theorem noPar_ok {p : Arguments} (h : noPar p = true) : p = ⟨[], [], none, [], [], none, []⟩ := by
  unfold noPar at h
  split at h
  · rfl
  · cases h
set_option maxHeartbeats 400000 in
/-- x(lambda: body), read by the interpreter -/
theorem se_lamc {g : Nat} {y : Str} {e : Ex} {params : Arguments} {body : Expr} {scope : Scope} {p lpos pos : Pos} (c : Cok X m) (hG : GF X Z G T) (hg : gnB m y = true) (hy : T.gnm g = some y) (hl : T.lam m.q = true) (hp : noPar params = true) (L : LamX.lamSB m.sc scope = true)
    (hb : ∀ {X1 : Cx}, Cok X1 (lamM m scope) → GFb X1 Z G T → ∀ {W1 : WX}, L2.Takes X1 W1 → PE X1 body (tE Z W1 G e)) : PE X (.Call (.Name y p) [.Lambda params body scope lpos] [] pos) (tE Z W G (.lamc g e)) := by
  obtain ⟨C, ga, oc, od, osl, pg, sg, dV, kV, doc, pm, cdv, ct, an, a, Ng, hd, hds, rest, l, j1, j2, p1, p2, p3, p4, p5, p6, f1, f2, f3, f4, f5, f6, f7, f8, f9, f10, f11, f12, f13, f14, f15, f16, f17⟩ := (hG.co g y hy).ex
  obtain ⟨g1, g2⟩ := gnB_ok c hg
  obtain ⟨⟨cc, P, t1, t2, t3, t4⟩, k, r1, r2⟩ := hG.lam (by rw [c.q]; exact hl)
  have LS : LamX.LamS X.env.scope scope := by rw [c.sc]; exact LamX.lamS_by L
  obtain rfl := noPar_ok hp
  have hmr : X.mg ("repr" : Str) = none := bl hG "repr" (by decide)
  refine (co_call (T := Z.tb) (TT := TTc X.K C.tag l) (t := fun E => tE Z (fun cls d _ H => E cls d H) G e) (k := k) g1 f2 f3 f4 f5 f6 f7 f8 f9
    (comp_gives f10 f7 f11 hmr f12 f13) t1 t2 t3 t4 r1 LS rfl (fun q cl pm cv ctv => rfl) (fun A outer s H E f c' hr => ?_) g2 f15 f16).imp fun σ H Q h => ?_
  · refine hb (X1 := LamX.lamCx X A outer s H E scope f c') ⟨c.N, c.nd, rfl, rfl, rfl, congrArg (fun z : Str => z ++ ("<lambda>" : Str) ++ (".<locals>." : Str)) c.q⟩ (r2 _ rfl rfl rfl rfl rfl hr) ?_
    exact takes_of rfl rfl rfl rfl
  · exact lamc_read f1 hG.hK f14 hG.xf hG.xs hG.rpr f17 h
theorem se_lamvG {k : Nat} {params : Arguments} {body : Expr} {scope : Scope} {lpos : Pos} (c : Cok X m) (hG : GF X Z G T) (hf : m.fn ("" : Str) = true) (ho : T.own = true) (hp : noPar params = true) (hl : T.lmt k body scope = true) : PE X (.Lambda params body scope lpos) (tE Z W G (.lamv k)) := by
  obtain ⟨o1, o2, o3, o4, o5⟩ := hG.owf ho (by rw [c.fn]; exact hf)
  obtain ⟨⟨cc, P, t1, t2, t3, t4⟩, _⟩ := hG.lam o4
  obtain rfl := noPar_ok hp
  exact se_lamv t1 t2 t3 t4 (o5 k body scope hl).1 o1 o2 ((o3 k body scope).mpr hl)
/-- x(e), e a lambda that is told of -/
theorem se_actc {g : Nat} {y : Str} {a : Ex} {e : Expr} {p pos : Pos} (c : Cok X m) (hG : GF X Z G T) (hf : m.fn ("" : Str) = true) (ho : T.own = true) (hg : gnB m y = true) (hy : T.gnm g = some y) (he : PE X e (tE Z W G a)) (hs : notStar e = true) : PE X (.Call (.Name y p) [e] [] pos) (tE Z W G (.actc g a)) := by
  obtain ⟨C, ga, oc, od, osl, pg, sg, dV, kV, doc, pm, cdv, ct, an, aa, Ng, hd, hds, rest, l, j1, j2, p1, p2, p3, p4, p5, p6, f1, f2, f3, f4, f5, f6, f7, f8, f9, f10, f11, f12, f13, f14, f15, f16, f17⟩ := (hG.co g y hy).ex
  obtain ⟨g1, g2⟩ := gnB_ok c hg
  obtain ⟨o1, o2, o3, o4, o5⟩ := hG.owf ho (by rw [c.fn]; exact hf)
  obtain ⟨_, k, r1, r2⟩ := hG.lam o4
  have hmr : X.mg ("repr" : Str) = none := bl hG "repr" (by decide)
  have hst : starEach [e] X.env = [(false, eval e X.env)] := by rw [star_cons hs]; rfl
  refine (act_call (Z := Z) (X := X) (TT := TTc X.K C.tag l) (x := y) (k := k) (te := tE Z W G a) (ok := fun k b s => T.lmt k b s = true) (t := fun k E => tG Z (fun cls d _ H => E cls d H) (G.lam k) (pV Z)) g1 f2 f3 f4 f5 f6 f7 f8 f9
    (comp_gives f10 f7 f11 hmr f12 f13) r1 o1 o2 (fun n b s h => (o5 n b s h).1) (fun n b s h A outer s1 H1 E f c' hr => ?_) he hst g2 f15 f16).imp fun σ H Q h => ?_
  · refine (o5 n b s h).2 (LamX.lamCx X A outer s1 H1 E s f c') rfl rfl rfl rfl rfl (r2 _ rfl rfl rfl rfl rfl hr) _ ?_
    exact takes_of rfl rfl rfl rfl
  · refine (tG.bind (P := pV Z) (f := ev G a) (k := fun d v S => match d with
      | .fn k => (match G.co g with
        | some C => (match G.lam k v S with
          | .ok d S => R.ok (.tup [.str C.tag, d]) S
          | .ex c ds S => tellC G c ds S C.hs
          | .bad => .bad)
        | none => .bad)
      | _ => .bad) (h.eq fun v S => by rw [ev] <;> rfl)).wk fun x1 H1 ⟨d, F1, ρ1, v1, S1, he1, hs1, p1, q1⟩ => ?_
    cases p1 with
    | @fn f c' n b s g0 gF gC =>
      simp only [f1] at q1
      refine ⟨n, f, c', b, s, rfl, (o3 n b s).mp g0, hs1.le _ _ gF, hs1.le _ _ gC, ?_⟩
      have tr := tell_read (X := X) (g := g) hG.hK f14 hG.xf hG.xs hG.rpr f17 he1 hs1 q1
      exact ⟨hs1.le _ _ gF, tr⟩
    | _ => exact q1.elim
end
end Mi

set_option Elab.async false
set_option linter.all false
set_option maxRecDepth 100000
set_option maxHeartbeats 8000000
/-! Mi, part 23: the matcher is right, expressions. -/
namespace Mi
open PySem PySem.Spec PyProof.Rows L2
section
variable {X : Cx} {Z : Ci} {G : Ga} {T : Mt} {W : WX} {m : Mx}
/-- an expression reads as e -/
def GoodE (X : Cx) (Z : Ci) (W : WX) (G : Ga) (e : Ex) (x : Expr) : Prop := PE X x (tE Z W G e) ∧ (isFresh e = true → PE X x (tF Z W (ev G e))) ∧ (noIf x = true → PT X x (tT Z W G e))
theorem GoodE.val {e : Ex} {x : Expr} (h : PE X x (tE Z W G e)) (hf : isFresh e = false) (hp : plainT x = true) : GoodE X Z W G e x := ⟨h, fun q => (by rw [hf] at q; cases q), fun _ => st_val h (isTrue_plain hp)⟩
theorem GoodE.new {e : Ex} {x : Expr} (h : PE X x (tF Z W (ev G e))) (hp : plainT x = true) : GoodE X Z W G e x := ⟨h.still, fun _ => h, fun _ => st_val h.still (isTrue_plain hp)⟩
theorem GoodE.both {e : Ex} {x : Expr} (h : PE X x (tE Z W G e) ∧ PT X x (tT Z W G e)) (hf : isFresh e = false) : GoodE X Z W G e x := ⟨h.1, fun q => (by rw [hf] at q; cases q), fun _ => h.2⟩
theorem star_one {a : Expr} {env : PySem.Env} (h : notStar a = true) : starEach [a] env = [(false, eval a env)] := by rw [star_cons h]; rfl
/-- arguments read as es -/
def GoodA (X : Cx) (Z : Ci) (W : WX) (G : Ga) (es : Exs) (as : List Expr) : Prop := PA X as (tEs Z W G es) ∧ noStars as = true ∧ (as = [] → es = .nil)
theorem GoodA.star {es : Exs} {as : List Expr} {pos : Pos} (h : GoodA X Z W G es as) : ∀ b bs, as = b :: bs → starEach as X.env = (false, eval b X.env) :: starEach bs X.env ∧ (backTo pos (starEach bs X.env)).any (·.1) = false := by
  rintro b bs rfl
  have h2 := h.2.1
  simp only [noStars, Bool.and_eq_true] at h2
  exact ⟨star_cons h2.1, back_any h2.2⟩
/-- an operand -/
def GoodQ (X : Cx) (Z : Ci) (W : WX) (G : Ga) (s : Sq) (x : Expr) : Prop := OkQ X Z W G s x ∧ ∀ e, s = .ex e → PE X x (tE Z W G e)
def GoodW (X : Cx) (Z : Ci) (W : WX) (G : Ga) (it : Wk) (x : Expr) : Prop := ∀ (O : Addr → Prop) (tg : Expr), (noOwnW it = true ∨ ∀ b, ¬ O b) → tgOk it tg = true → PI X tg x (tI Z W G O it)
theorem isN_pt {a : Ex} {x : Expr} {j pos' pos} (ha : PE X x (tE Z W G a)) : PT X (.Compare x [.Is] [.Constant .none j pos'] pos) (tT Z W G (.isN a)) := by
  refine (pt_cmp (pc_isN (j := j) (pos' := pos') ha)).imp fun σ H Q h => ?_
  refine (tG.bind (P := pV Z) (f := ev G a) (k := fun x _ S => R.ok (match x with | .non => true | _ => false) S) (h.eq fun v S => by rw [ev]; cases ev G a v S <;> rfl)).wk fun x1 H1 ⟨d, F1, ρ1, v1, S1, he, hs, p, q⟩ => ?_
  cases p <;> exact ⟨_, rfl, PostA.done (P := pEq) q hs rfl⟩
theorem isNN_pt {a : Ex} {x : Expr} {j pos' pos} (ha : PE X x (tE Z W G a)) : PT X (.Compare x [.IsNot] [.Constant .none j pos'] pos) (tT Z W G (.isNN a)) := by
  refine (pt_cmp (pc_notN (j := j) (pos' := pos') ha)).imp fun σ H Q h => ?_
  refine (tG.bind (P := pV Z) (f := ev G a) (k := fun x _ S => R.ok (match x with | .non => false | _ => true) S) (h.eq fun v S => by rw [ev]; cases ev G a v S <;> rfl)).wk fun x1 H1 ⟨d, F1, ρ1, v1, S1, he, hs, p, q⟩ => ?_
  cases p <;> exact ⟨_, rfl, PostA.done (P := pEq) q hs rfl⟩
theorem se_con {k : Nat} {x : Str} {d : D} {v : V} {u : Value} {pos} (hd : G.con k = some d) (hg : Gl X x) (hm : X.mg x = some u) (r : RelV v u) (hv : ∀ F ρ, Rep Z F ρ d v) (hdb : (x == ("__debug__" : Str)) = false) : PE X (.Name x pos) (tE Z W G (.con k)) :=
  (pe_glob hg hm r hdb).imp fun σ H Q ⟨F, ρ, v, S, he, hs, hp⟩ => PostA.done (P := pV Z) (W := W) (σ := σ) (by unfold ev at hp; rw [hd] at hp; exact hp) hs (hv F ρ)

set_option maxHeartbeats 16000000 in
mutual
theorem mE_ok : ∀ (e : Ex) {X : Cx} {m : Mx} {W : WX} {x : Expr}, Cok X m → GF X Z G T → L2.Takes X W → mE T m e x = true → GoodE X Z W G e x
  | .var i, X, m, W, x, c, hG, tk, h => by
    unfold mE at h; split at h
    · obtain ⟨h1, h2, h3, h4⟩ := nmB_ok c h
      exact .val (se_var h1 h2 h3 h4) rfl rfl
    · cases h
  | .int n, X, m, W, x, c, hG, tk, h => by
    unfold mE at h; split at h
    · obtain rfl := of_decide_eq_true h
      exact .val se_int rfl rfl
    · cases h
  | .bl b, X, m, W, x, c, hG, tk, h => by
    unfold mE at h; split at h
    · obtain rfl := of_decide_eq_true h
      exact .val se_bl rfl rfl
    · cases h
  | .non, X, m, W, x, c, hG, tk, h => by
    unfold mE at h; split at h
    · exact .val se_non rfl rfl
    · cases h
  | .str s, X, m, W, x, c, hG, tk, h => by
    unfold mE at h; split at h
    · exact .val (se_str (of_decide_eq_true h)) rfl rfl
    · cases h
  | .con k, X, m, W, x, c, hG, tk, h => by
    unfold mE at h; split at h
    · simp only [Bool.and_eq_true, decide_eq_true_eq] at h
      obtain ⟨g1, g2⟩ := gnB_ok c h.1
      obtain ⟨d, v, u, k1, k2, k3, k4⟩ := hG.con k _ h.2
      exact .val (se_con k1 g1 k2 k3 k4 g2) rfl rfl
    · cases h
  | .tup es, X, m, W, x, c, hG, tk, h => by
    unfold mE at h; split at h
    · exact .val (se_tup (mA_ok es c hG tk h).1) rfl rfl
    · cases h
  | .lst es, X, m, W, x, c, hG, tk, h => by
    unfold mE at h; split at h
    · exact .new (sf_lst (mA_ok es c hG tk h).1) rfl
    · cases h
  | .neg a, X, m, W, x, c, hG, tk, h => by
    unfold mE at h; split at h
    · exact .val (se_neg tk hG.neg (mE_ok a c hG tk h).1) rfl rfl
    · cases h
  | .not a, X, m, W, x, c, hG, tk, h => by
    unfold mE at h; split at h
    · simp only [Bool.and_eq_true] at h
      have g := mE_ok a c hG tk h.1
      exact .both (se_not g.1 (g.2.2 h.2)) rfl
    · cases h
  | .bin o a b, X, m, W, x, c, hG, tk, h => by
    unfold mE at h; split at h
    · simp only [Bool.and_eq_true] at h
      obtain rfl := mBi_ok h.1.1
      exact .val (se_bin (hG.op o) (mE_ok a c hG tk h.1.2).1 (mE_ok b c hG tk h.2).1) rfl rfl
    · cases h
  | .cmp o a b, X, m, W, x, c, hG, tk, h => by
    unfold mE at h; split at h
    · simp only [Bool.and_eq_true] at h
      obtain rfl := mCm_ok h.1.1.1
      exact .both (se_cmp (hG.cmpG o) (mE_ok a c hG tk h.1.1.2).1 (mE_ok b c hG tk h.1.2).1 (behind_not h.2)) rfl
    · cases h
  | .chn o p a b d, X, m, W, x, c, hG, tk, h => by
    unfold mE at h; split at h
    · simp only [Bool.and_eq_true] at h
      obtain rfl := mCm_ok h.1.1.1.1.1.1
      obtain rfl := mCm_ok h.1.1.1.1.1.2
      exact .both (se_chn (hG.cmp o) (hG.cmp p) (mE_ok a c hG tk h.1.1.1.1.2).1 (mE_ok b c hG tk h.1.1.1.2).1 (mE_ok d c hG tk h.1.1.2).1 (last_not h.1.2 h.2)) rfl
    · cases h
  | .isN a, X, m, W, x, c, hG, tk, h => by
    unfold mE at h; split at h
    · have g := (mE_ok a c hG tk h).1
      exact .both ⟨se_isN g, isN_pt g⟩ rfl
    · cases h
  | .isNN a, X, m, W, x, c, hG, tk, h => by
    unfold mE at h; split at h
    · have g := (mE_ok a c hG tk h).1
      exact .both ⟨se_isNN g, isNN_pt g⟩ rfl
    · cases h
  | .and es, X, m, W, x, c, hG, tk, h => by
    unfold mE at h; split at h
    · exact .both (se_and (mT_ok es c hG tk h) (by simp)) rfl
    · cases h
  | .or es, X, m, W, x, c, hG, tk, h => by
    unfold mE at h; split at h
    · exact .both (se_or (mT_ok es c hG tk h) (by simp)) rfl
    · cases h
  | .ife d a b, X, m, W, x, c, hG, tk, h => by
    unfold mE at h; split at h
    · simp only [Bool.and_eq_true] at h
      refine ⟨se_ife ((mE_ok d c hG tk h.1.1.1).2.2 h.1.1.2) (mE_ok a c hG tk h.1.2).1 (mE_ok b c hG tk h.2).1, fun q => (by cases q), fun q => (by cases q)⟩
    · cases h
  | .idx s i, X, m, W, x, c, hG, tk, h => by
    unfold mE at h; split at h
    · simp only [Bool.and_eq_true] at h
      exact .val (se_idx hG.hK (mQ_ok s c hG tk h.1.1).1 (mE_ok i c hG tk h.1.2).1 (ix_not h.2)) rfl rfl
    · cases h
  | .slc s lo hi, X, m, W, x, c, hG, tk, h => by
    unfold mE at h; split at h
    · simp only [Bool.and_eq_true] at h
      exact .val (se_slc hG.hK (mQ_ok s c hG tk h.1.1).1 (mO_ok lo c hG tk h.1.2) (mO_ok hi c hG tk h.2)) rfl rfl
    · cases h
  | .rev s, X, m, W, x, c, hG, tk, h => by
    unfold mE at h; split at h
    · simp only [Bool.and_eq_true, decide_eq_true_eq] at h
      obtain ⟨h1, rfl⟩ := h
      exact .val (se_rev hG.hK (mQ_ok s c hG tk h1).1) rfl rfl
    · cases h
  | .fld a f, X, m, W, x, c, hG, tk, h => by
    unfold mE at h; split at h
    · simp only [Bool.and_eq_true, decide_eq_true_eq] at h
      exact .val (se_fld hG.fld h.1.1.2 h.1.2 (mE_ok a c hG tk h.1.1.1).1 (base_not h.2)) rfl rfl
    · cases h
  | .sfl i f, X, m, W, x, c, hG, tk, h => by
    unfold mE at h; split at h
    · simp only [Bool.and_eq_true, decide_eq_true_eq] at h
      obtain ⟨h1, h2, h3, h4⟩ := nmB_ok c h.1.1
      exact .val (se_sfl hG.fld h.1.2 h.2 h1 h2 h3 h4 (base_not rfl)) rfl rfl
    · cases h
  | .call f es, X, m, W, x, c, hG, tk, h => by
    unfold mE at h; split at h
    · simp only [Bool.and_eq_true, decide_eq_true_eq] at h
      obtain ⟨g1, g2⟩ := gnB_ok c h.1.1.1
      obtain ⟨a, k1, k2, k3⟩ := hG.call f _ _ h.1.1.2 h.1.2
      have g := mA_ok es c hG tk h.2
      exact .val (se_call k3 tk g1 k1 k2 g2 g.1 g.star g.2.2) rfl rfl
    · cases h
  | .new k es, X, m, W, x, c, hG, tk, h => by
    unfold mE at h; split at h
    · simp only [Bool.and_eq_true, decide_eq_true_eq] at h
      obtain ⟨g1, g2⟩ := gnB_ok c h.1.1.1
      obtain ⟨k1, cl, k2, k3⟩ := hG.new k _ _ h.1.1.2 h.1.2
      have g := mA_ok es c hG tk h.2
      exact .val (se_new k2 k3 tk g1 k1 g2 g.1 g.star g.2.2) rfl rfl
    · cases h
  | .mth i a es, X, m, W, x, c, hG, tk, h => by
    unfold mE at h; split at h
    · simp only [Bool.and_eq_true, decide_eq_true_eq] at h
      obtain ⟨⟨⟨⟨⟨⟨h1, h2⟩, h3⟩, h4⟩, h5⟩, h6⟩, h7⟩ := h
      have g := mA_ok es c hG tk h7
      obtain ⟨pl, e⟩ := mth_eq (env := X.env) h3 g.2.1 h4 h5
      exact .val (se_mth (hG.mth i _ _ h1 h2) tk (mE_ok a c hG tk h6).1 g.1 g.star g.2.2 e) rfl rfl
    · cases h
  | .len s, X, m, W, x, c, hG, tk, h => by
    unfold mE at h; split at h
    · simp only [Bool.and_eq_true] at h
      obtain ⟨rfl, g⟩ := bn_ok c h.1.1
      exact .val (se_len hG.hK g (bl hG _ (by decide)) (mQ_ok s c hG tk h.1.2).1 (star_one h.2)) rfl rfl
    · cases h
  | .listOf s, X, m, W, x, c, hG, tk, h => by
    unfold mE at h; split at h
    · simp only [Bool.and_eq_true] at h
      obtain ⟨rfl, g⟩ := bn_ok c h.1.1
      exact .new (sf_listOf hG.hK g (bl hG _ (by decide)) (mQ_ok s c hG tk h.1.2).1 (star_one h.2)) rfl
    · cases h
  | .tupOf s, X, m, W, x, c, hG, tk, h => by
    unfold mE at h; split at h
    · simp only [Bool.and_eq_true] at h
      obtain ⟨rfl, g⟩ := bn_ok c h.1.1
      exact .val (se_tupOf hG.hK g (bl hG _ (by decide)) (mQ_ok s c hG tk h.1.2).1 (star_one h.2)) rfl rfl
    · cases h
  | .sum s, X, m, W, x, c, hG, tk, h => by
    unfold mE at h; split at h
    · simp only [Bool.and_eq_true] at h
      obtain ⟨rfl, g⟩ := bn_ok c h.1.1
      exact .val (se_sum hG.hK c.calm hG.op1 g (bl hG _ (by decide)) (mQ_ok s c hG tk h.1.2).1 (star_one h.2)) rfl rfl
    · cases h
  | .all s, X, m, W, x, c, hG, tk, h => by
    unfold mE at h; split at h
    · simp only [Bool.and_eq_true] at h
      obtain ⟨rfl, g⟩ := bn_ok c h.1.1
      exact .val (se_all g (bl hG _ (by decide)) (mQ_ok s c hG tk h.1.2).1 c.calm (star_one h.2)) rfl rfl
    · cases h
  | .sorted s, X, m, W, x, c, hG, tk, h => by
    unfold mE at h; split at h
    · simp only [Bool.and_eq_true] at h
      obtain ⟨rfl, g⟩ := bn_ok c h.1.1
      exact .new (sf_sorted g (bl hG _ (by decide)) (mQ_ok s c hG tk h.1.2).1 (star_one h.2)) rfl
    · cases h
  | .lenSet s, X, m, W, x, c, hG, tk, h => by
    unfold mE at h; split at h
    · simp only [Bool.and_eq_true] at h
      obtain ⟨⟨⟨h1, h2⟩, h3⟩, h4⟩ := h
      obtain ⟨rfl, g⟩ := bn_ok c h1
      obtain ⟨rfl, g'⟩ := bn_ok c h2
      exact .val (se_lenSet g (bl hG _ (by decide)) g' (bl hG _ (by decide)) (mQ_ok s c hG tk h3).1 c.calm (star_one h4)) rfl rfl
    · cases h
  | .max2 a b, X, m, W, x, c, hG, tk, h => by
    unfold mE at h; split at h
    · simp only [Bool.and_eq_true] at h
      obtain ⟨⟨⟨⟨h1, h2⟩, h3⟩, h4⟩, h5⟩ := h
      obtain ⟨rfl, g⟩ := bn_ok c h1
      exact .val (se_max2 c.calm g (bl hG _ (by decide)) (mE_ok a c hG tk h2).1 (mE_ok b c hG tk h3).1 (star_cons h4) (star_one h5)) rfl rfl
    · cases h
  | .min2 a b, X, m, W, x, c, hG, tk, h => by
    unfold mE at h; split at h
    · simp only [Bool.and_eq_true] at h
      obtain ⟨⟨⟨⟨h1, h2⟩, h3⟩, h4⟩, h5⟩ := h
      obtain ⟨rfl, g⟩ := bn_ok c h1
      exact .val (se_min2 c.calm g (bl hG _ (by decide)) (mE_ok a c hG tk h2).1 (mE_ok b c hG tk h3).1 (star_cons h4) (star_one h5)) rfl rfl
    · cases h
  | .intOf a, X, m, W, x, c, hG, tk, h => by
    unfold mE at h; split at h
    · simp only [Bool.and_eq_true] at h
      obtain ⟨rfl, g⟩ := bn_ok c h.1.1
      exact .val (se_intOf g (bl hG _ (by decide)) (mE_ok a c hG tk h.1.2).1 (star_one h.2)) rfl rfl
    · cases h
  | .gcd a b, X, m, W, x, c, hG, tk, h => by
    unfold mE at h; split at h
    · simp only [Bool.and_eq_true] at h
      obtain ⟨⟨⟨⟨⟨h1, h0⟩, h2⟩, h3⟩, h4⟩, h5⟩ := h
      obtain ⟨rfl, g⟩ := bn_ok c h1
      exact .val (se_gcd g (hG.gcd h0) (mE_ok a c hG tk h2).1 (mE_ok b c hG tk h3).1 (star_cons h4) (star_one h5)) rfl rfl
    · cases h
  | .isI a ts b, X, m, W, x, c, hG, tk, h => by
    unfold mE at h; split at h
    · simp only [Bool.and_eq_true] at h
      obtain ⟨⟨⟨h1, h2⟩, h3⟩, h4⟩ := h
      obtain ⟨rfl, g⟩ := bn_ok c h1
      have ga := (mE_ok a c hG tk h2).1
      cases b with
      | false =>
        simp only at h4
        split at h4
        · obtain ⟨k1, k2⟩ := mTy_ok (Z := Z) c hG h4
          exact .val (se_isI hG.isf hG.hK g (bl hG _ (by decide)) ga k1 (star_cons h3) (star_one k2)) rfl rfl
        · cases h4
      | true =>
        simp only at h4
        split at h4
        · simp only [Bool.and_eq_true, decide_eq_true_eq] at h4
          exact .val (se_isIT hG.isf hG.hK g (bl hG _ (by decide)) ga (mTys_ok c hG h4.1) h4.2 (star_cons h3) (star_one rfl)) rfl rfl
        · cases h4
    · cases h
  | .lamc g e, X, m, W, x, c, hG, tk, h => by
    unfold mE at h; split at h
    · simp only [Bool.and_eq_true, decide_eq_true_eq, Bool.not_eq_true'] at h
      obtain ⟨⟨⟨⟨⟨⟨h1, h2⟩, h3⟩, h4⟩, h5⟩, h6⟩, h7⟩ := h
      exact .val (se_lamc c hG h1 h2 h3 h5 h6 fun {X1} c1 g1 {W1} t1 => (mE_ok e c1 ⟨g1, fun q => (by rw [c1.q] at q; exact absurd q (by rw [show (lamM m _).q = m.q ++ "<lambda>" ++ ".<locals>." from rfl, h4]; decide)), fun _ q => (by rw [c1.fn] at q; cases q)⟩ t1 h7).1) rfl rfl
    · cases h
  | .lamv k, X, m, W, x, c, hG, tk, h => by
    unfold mE at h; split at h
    · simp only [Bool.and_eq_true] at h
      exact .val (se_lamvG c hG h.1.1.1 h.1.1.2 h.1.2 h.2) rfl rfl
    · cases h
  | .actc g e, X, m, W, x, c, hG, tk, h => by
    unfold mE at h; split at h
    · simp only [Bool.and_eq_true, decide_eq_true_eq] at h
      obtain ⟨⟨⟨⟨⟨h1, h2⟩, h3⟩, h4⟩, h5⟩, h6⟩ := h
      exact .val (se_actc c hG h1 h2 h3 h4 (mE_ok e c hG tk h5).1 h6) rfl rfl
    · cases h
  | .maxL s, X, m, W, x, c, hG, tk, h => by
    unfold mE at h; split at h
    · simp only [Bool.and_eq_true] at h
      obtain ⟨rfl, g1⟩ := bn_ok c h.1.1
      exact .val (se_maxL c.calm hG.hK g1 (bl hG "max" (by decide)) (mQ_ok s c hG tk h.1.2).1 (star_one h.2)) rfl rfl
    · cases h
  | .minL s, X, m, W, x, c, hG, tk, h => by
    unfold mE at h; split at h
    · simp only [Bool.and_eq_true] at h
      obtain ⟨rfl, g1⟩ := bn_ok c h.1.1
      exact .val (se_minL c.calm hG.hK g1 (bl hG "min" (by decide)) (mQ_ok s c hG tk h.1.2).1 (star_one h.2)) rfl rfl
    · cases h
  | .anyL s, X, m, W, x, c, hG, tk, h => by
    unfold mE at h; split at h
    · simp only [Bool.and_eq_true] at h
      obtain ⟨rfl, g1⟩ := bn_ok c h.1.1
      exact .val (se_anyL g1 (bl hG "any" (by decide)) (mQ_ok s c hG tk h.1.2).1 c.calm (star_one h.2)) rfl rfl
    · cases h
  | .lsR1 a, X, m, W, x, c, hG, tk, h => by
    unfold mE at h; split at h
    · simp only [Bool.and_eq_true] at h
      obtain ⟨⟨⟨h1, h2⟩, h3⟩, h4⟩ := h
      obtain ⟨rfl, g⟩ := bn_ok c h1
      obtain ⟨rfl, g'⟩ := bn_ok c h2
      exact .new (sf_lsR1 c.calm g (bl hG _ (by decide)) g' (bl hG _ (by decide)) (mE_ok a c hG tk h3).1 (star_one h4)) rfl
    · cases h
  | .lsR2 a b, X, m, W, x, c, hG, tk, h => by
    unfold mE at h; split at h
    · simp only [Bool.and_eq_true] at h
      obtain ⟨⟨⟨⟨⟨h1, h2⟩, h3⟩, h4⟩, h5⟩, h6⟩ := h
      obtain ⟨rfl, g⟩ := bn_ok c h1
      obtain ⟨rfl, g'⟩ := bn_ok c h2
      exact .new (sf_lsR2 c.calm g (bl hG _ (by decide)) g' (bl hG _ (by decide)) (mE_ok a c hG tk h3).1 (mE_ok b c hG tk h4).1 (star_cons h5) (star_one h6)) rfl
    · cases h
  | .cat a b, X, m, W, x, c, hG, tk, h => by
    unfold mE at h; split at h
    · simp only [Bool.and_eq_true] at h
      exact .new (sf_cat (mE_ok a c hG tk h.1).1 (mE_ok b c hG tk h.2).1) rfl
    · cases h
  | .reps a b, X, m, W, x, c, hG, tk, h => by
    unfold mE at h; split at h
    · simp only [Bool.and_eq_true] at h
      exact .new (sf_reps (mE_ok a c hG tk h.1).1 (mE_ok b c hG tk h.2).1) rfl
    · cases h
  | .abs a, X, m, W, x, c, hG, tk, h => by
    unfold mE at h; split at h
    · simp only [Bool.and_eq_true] at h
      obtain ⟨rfl, g⟩ := bn_ok c h.1.1
      exact .val (se_abs g (bl hG _ (by decide)) (mE_ok a c hG tk h.1.2).1 (star_one h.2)) rfl rfl
    · cases h
  | .repr a, X, m, W, x, c, hG, tk, h => by
    unfold mE at h; split at h
    · simp only [Bool.and_eq_true] at h
      obtain ⟨rfl, g⟩ := bn_ok c h.1.1
      exact .val (se_repr hG.rpr g (bl hG _ (by decide)) (mE_ok a c hG tk h.1.2).1 (star_one h.2)) rfl rfl
    · cases h
  | .dget a k, X, m, W, x, c, hG, tk, h => by
    unfold mE at h; split at h
    · simp only [Bool.and_eq_true, decide_eq_true_eq] at h
      have hu := hG.units
      obtain ⟨h1, rfl⟩ := h
      exact .val (se_dget (by omega) (mE_ok a c hG tk h1).1 pe_str (fun _ _ => rfl)) rfl rfl
    · cases h
  | .disp ks es, X, m, W, x, c, hG, tk, h => by
    unfold mE at h; split at h
    · simp only [Bool.and_eq_true, decide_eq_true_eq] at h
      obtain ⟨g1, g2, g3, g4⟩ := mD_ok es c hG tk h.1
      exact .val (se_disp (g1 _) g2 g3 (by simp) h.2 g4) rfl rfl
    · cases h
  | .comp e own p it d, X, m, W, x, c, hG, tk, h => by
    unfold mE at h; split at h
    · rename_i elt tg iter ifs z sc pos
      simp only [Bool.and_eq_true, decide_eq_true_eq, List.all_eq_true] at h
      obtain ⟨⟨⟨⟨⟨⟨⟨⟨h0, rfl⟩, h2⟩, h3⟩, h4⟩, h5⟩, h6⟩, h7⟩, h8⟩ := h
      have ho : (ownL m own).map (·.2) = own := by unfold ownL; rw [List.map_map]; exact (List.map_congr_left fun _ _ => rfl).trans (List.map_id _)
      have hst : StP Z p (gP Z p) := stP_all p
      exact .new (sf_comp (Z := Z) (own := own) (ow := ownL m own) (g := gP Z p) c.calm (by rw [c.N]; exact c.nd) (mW_ok it c hG tk h2.1 _ _ (.inr fun _ q => q) h2.2) (by rw [c.N, c.sc]; exact blkOk_by h4) ho (fun i hi => by have := h5 i hi; simpa using this)
        (fun s H C cl fp => (mP_ok (Z := Z) (G := G) (T := T) (blk_cok c) (hG.conv blk_same (blk_fn h0)) h6).1) (fun s H C cl fp => mC_ok d (blk_cok c) (hG.conv blk_same (blk_fn h0)) takes0 h7) (fun s H C cl fp => (mE_ok e (blk_cok c) (hG.conv blk_same (blk_fn h0)) takes0 h8).1) hst (folded_not h3)) rfl
    · cases h
theorem mA_ok : ∀ (es : Exs) {X : Cx} {m : Mx} {W : WX} {as : List Expr}, Cok X m → GF X Z G T → L2.Takes X W → mA T m es as = true → GoodA X Z W G es as
  | .nil, X, m, W, as, c, hG, tk, h => by
    unfold mA at h; split at h
    · exact ⟨se_nil, rfl, fun _ => rfl⟩
    · cases h
  | .cons e es, X, m, W, as, c, hG, tk, h => by
    unfold mA at h; split at h
    · simp only [Bool.and_eq_true] at h
      have g := mA_ok es c hG tk h.2
      refine ⟨se_cons (mE_ok e c hG tk h.1.1).1 g.1 (star_cons h.1.2), ?_, fun q => (by cases q)⟩
      simp [noStars, h.1.2, g.2.1]
    · cases h
theorem mT_ok : ∀ (es : Exs) {X : Cx} {m : Mx} {W : WX} {as : List Expr}, Cok X m → GF X Z G T → L2.Takes X W → mT T m es as = true → AllPT X Z W G es as
  | .nil, X, m, W, as, c, hG, tk, h => by
    unfold mT at h; split at h
    · trivial
    · cases h
  | .cons e es, X, m, W, as, c, hG, tk, h => by
    unfold mT at h; split at h
    · simp only [Bool.and_eq_true] at h
      have g := mE_ok e c hG tk h.1.1
      exact ⟨⟨g.1, g.2.2 h.1.2⟩, mT_ok es c hG tk h.2⟩
    · cases h
theorem mD_ok : ∀ (es : Exs) {X : Cx} {m : Mx} {W : WX} {ks : List (List Nat)} {keys : List (Option Expr)} {vals : List Expr}, Cok X m → GF X Z G T → L2.Takes X W → mD T m es ks keys vals = true → (∀ pos, PPs X pos keys vals (trsD Z W G ks es)) ∧ keys.all (·.isSome) = true ∧ keys.length = vals.length ∧ ks.length = exN es
  | .nil, X, m, W, ks, keys, vals, c, hG, tk, h => by
    unfold mD at h
    simp only [Bool.and_eq_true, List.isEmpty_iff] at h
    obtain ⟨⟨rfl, rfl⟩, rfl⟩ := h
    exact ⟨fun _ => pps_nil, rfl, rfl, rfl⟩
  | .cons e es, X, m, W, ks, keys, vals, c, hG, tk, h => by
    unfold mD at h; split at h
    · simp only [Bool.and_eq_true, decide_eq_true_eq] at h
      obtain ⟨⟨rfl, h1⟩, h2⟩ := h
      obtain ⟨g1, g2, g3, g4⟩ := mD_ok es c hG tk h2
      exact ⟨fun pos => pps_cons pe_str (mE_ok e c hG tk h1).1 (g1 pos), by simpa using g2, by simp [g3], by simp [exN, g4]⟩
    · cases h
theorem mQ_ok : ∀ (s : Sq) {X : Cx} {m : Mx} {W : WX} {x : Expr}, Cok X m → GF X Z G T → L2.Takes X W → mQ T m s x = true → GoodQ X Z W G s x
  | .own i, X, m, W, x, c, hG, tk, h => by
    unfold mQ at h; split at h
    · obtain ⟨h1, h2, h3, h4⟩ := nmB_ok c h
      exact ⟨sq_own h1 h2 h3 h4, fun e q => (by cases q)⟩
    · cases h
  | .ex e, X, m, W, x, c, hG, tk, h => by
    unfold mQ at h
    have g := (mE_ok e c hG tk h).1
    exact ⟨sq_ex g, fun e' q => (by cases q; exact g)⟩
theorem mO_ok : ∀ (o : Exo) {X : Cx} {m : Mx} {W : WX} {x : Option Expr}, Cok X m → GF X Z G T → L2.Takes X W → mO T m o x = true → OkO X Z W G o x
  | .no, X, m, W, x, c, hG, tk, h => by
    unfold mO at h
    cases x with
    | none => trivial
    | some _ => cases h
  | .yes e, X, m, W, x, c, hG, tk, h => by
    unfold mO at h; split at h
    · exact (mE_ok e c hG tk h).1
    · cases h
theorem mC_ok : ∀ (o : Exo) {X : Cx} {m : Mx} {W : WX} {as : List Expr}, Cok X m → GF X Z G T → L2.Takes X W → mC T m o as = true → OkC X Z W G o as
  | .no, X, m, W, as, c, hG, tk, h => by
    unfold mC at h; split at h
    · trivial
    · cases h
  | .yes e, X, m, W, as, c, hG, tk, h => by
    unfold mC at h; split at h
    · simp only [Bool.and_eq_true] at h
      exact (mE_ok e c hG tk h.1).2.2 h.2
    · cases h
theorem mW_ok : ∀ (it : Wk) {X : Cx} {m : Mx} {W : WX} {x : Expr}, Cok X m → GF X Z G T → L2.Takes X W → mW T m it x = true → GoodW X Z W G it x
  | .seq s, X, m, W, x, c, hG, tk, h => by
    unfold mW at h
    have g := mQ_ok s c hG tk h
    exact fun O tg ho _ => si_seq hG.hK (sqo_of g.1 ho g.2)
  | .rng1 a, X, m, W, x, c, hG, tk, h => by
    unfold mW at h; split at h
    · simp only [Bool.and_eq_true] at h
      obtain ⟨rfl, g⟩ := bn_ok c h.1.1
      exact fun O tg ho _ => si_rng1 g (bl hG _ (by decide)) (mE_ok a c hG tk h.1.2).1 (star_one h.2)
    · cases h
  | .rng2 a b, X, m, W, x, c, hG, tk, h => by
    unfold mW at h; split at h
    · simp only [Bool.and_eq_true] at h
      obtain ⟨⟨⟨⟨h1, h2⟩, h3⟩, h4⟩, h5⟩ := h
      obtain ⟨rfl, g⟩ := bn_ok c h1
      exact fun O tg ho _ => si_rng2 g (bl hG _ (by decide)) (mE_ok a c hG tk h2).1 (mE_ok b c hG tk h3).1 (by rw [star_cons h4, star_one h5]) (star_one h5)
    · cases h
  | .enum s, X, m, W, x, c, hG, tk, h => by
    unfold mW at h; split at h
    · simp only [Bool.and_eq_true] at h
      obtain ⟨rfl, g⟩ := bn_ok c h.1.1
      have gq := mQ_ok s c hG tk h.1.2
      intro O tg ho ht
      simp only [tgOk] at ht
      split at ht
      · exact si_enum g (bl hG _ (by decide)) (slo_of gq.1 ho gq.2) (star_one h.2)
      · cases ht
    · cases h
  | .zip s t, X, m, W, x, c, hG, tk, h => by
    unfold mW at h; split at h
    · simp only [Bool.and_eq_true] at h
      obtain ⟨⟨⟨⟨h1, h2⟩, h3⟩, h4⟩, h5⟩ := h
      obtain ⟨rfl, g⟩ := bn_ok c h1
      have g1 := mQ_ok s c hG tk h2
      have g2 := mQ_ok t c hG tk h3
      intro O tg ho ht
      have hos : noOwn s = true ∨ ∀ b, ¬ O b := ho.imp (fun q => by simp only [noOwnW, Bool.and_eq_true] at q; exact q.1) fun q => q
      have hot : noOwn t = true ∨ ∀ b, ¬ O b := ho.imp (fun q => by simp only [noOwnW, Bool.and_eq_true] at q; exact q.2) fun q => q
      simp only [tgOk] at ht
      split at ht
      · exact si_zip hG.hK g (bl hG _ (by decide)) (sqo_of g1.1 hos g1.2) (sqo_of g2.1 hot g2.2) (star_cons h4) (star_one h5)
      · cases ht
    · cases h
end
end
end Mi

set_option Elab.async false
set_option linter.all false
set_option maxRecDepth 100000
set_option maxHeartbeats 8000000
/-! Mi, part 24: the matcher, statements. -/
namespace Mi
open PySem PySem.Spec PyProof.Rows L2
/-- a plain local -/
def lcB (m : Mx) (i : Nat) (x : Str) : Bool := decide (m.N[i]? = some x) && (match m.sc.names.lookup x with
  | some .local => true
  | _ => false) && dbg x
/-- the stores of a pair are exchanged -/
def pairB (x y : Str) (px py : Pos) (a b : Expr) : Bool := decide (x ≠ y) && (py.line == px.line) && notStar a && notStar b && !([a, b].all (foldedForSure 8)) && !([a, b].all (constantsAlone 8))
/-- the stores of a tuple that are not exchanged -/
def noSwapB (ts : List Expr) (v : Expr) : Bool := match v with
  | .Tuple vs _ _ => !(ts.length == 2 || ts.length == 3) || vs.length != ts.length || vs.all (foldedForSure 8)
  | _ => false
/-- a name among them is no plain local -/
def noSwapC (sc : Scope) (ts : List Expr) : Bool := ts.any fun
  | .Name id _ => !decide (sc.names.lookup id = some .local)
  | _ => true
mutual
def mS (T : Mt) (m : Mx) : Sm → Stmt → Bool
  | .asg i e, s => (match s with
    | .Assign [.Name x _] v _ => stB m i x && mE T m e v && notComp v
    | _ => false)
  | .own i e, s => isFresh e && (match s with
    | .Assign [.Name x px] v pos => stB m i x && (if notComp v then mE T m e v else (match e, v with
      | .comp e own p it c, .ListComp elt [⟨tg, iter, ifs, z⟩] sc vp => lcB m i x && (match m.sc.kind with | .function => true | _ => false) && (px.line == vp.line) && !(sc.names.any fun (n, k) => n == x && (k == .local || k == .cell)) &&
          noNm sc && decide (z = 0) && (mW T m it iter && tgOk it tg) && notSet iter && blkC m.N m.sc sc (ownL m own) && (slotsP p).all (fun i => own.contains i) && mP (blkM m sc) p tg && mC T (blkM m sc) c ifs && mE T (blkM m sc) e elt
      | _, _ => false))
    | _ => false)
  | .asgT is e, s => (match s with
    | .Assign [.Tuple es k p] v _ => mP m (.tp is) (.Tuple es k p) && mE T m e v && notComp v && (notTup v || noSwapB es v || noSwapC m.sc es)
    | _ => false)
  | .par i oi a j oj b, s => (match s with
    | .Assign [.Tuple [.Name x px, .Name y py] _ _] (.Tuple [a', b'] _ _) _ => decide (i ≠ j) && lcB m i x && lcB m j y && (match m.sc.kind with | .function => true | _ => false) && pairB x y px py a' b' && mE T m a a' && mE T m b b' && (!oi || isFresh a) && (!oj || isFresh b)
    | _ => false)
  | .par3 i a j b l c, s => (match s with
    | .Assign [.Tuple [.Name x px, .Name y py, .Name z pz] _ _] (.Tuple [a', b', c'] _ _) _ => decide (i ≠ j) && decide (i ≠ l) && decide (j ≠ l) && lcB m i x && lcB m j y && lcB m l z && (match m.sc.kind with | .function => true | _ => false) && tripB x y z px py pz a' b' c' && mE T m a a' && mE T m b b' && mE T m c c' && notStar a' && notStar b' && notStar c'
    | _ => false)
  | .exp e, s => (match s with
    | .Expr v _ => mE T m e v && notComp v
    | _ => false)
  | .app i e, s => (match s with
    | .Expr (.Call (.Attribute (.Name x _) y ap) [a] [] cp) _ => nmB m i x && decide (y = Str.ofString "append") && mE T m e a && notStar a && (ap.endLine == cp.line)
    | _ => false)
  | .appPop i j e, s => (match s with
    | .Expr (.Call (.Attribute (.Name x _) y ap) [.Call (.Attribute (.Name z _) y' ap') [a] [] cp'] [] cp) _ => nmB m i x && nmB m j z && decide (y = Str.ofString "append") && decide (y' = Str.ofString "pop") && mE T m e a && notStar a && (ap.endLine == cp.line) && (ap'.endLine == cp'.line)
    | _ => false)
  | .setI i k e, s => (match s with
    | .Assign [.Subscript (.Name x _) b _] v _ => nmB m i x && mE T m k b && mE T m e v && notComp v && notTup v && notSlc b
    | _ => false)
  | .dset i k e, s => (match s with
    | .Assign [.Subscript (.Name x _) (.Constant (.str y) _ _) _] v _ => nmB m i x && decide (y = toS k) && mE T m e v && notComp v
    | _ => false)
  | .sfl i f e, s => (match s with
    | .Assign [.Attribute (.Name x _) y _] v _ => nmB m i x && decide (T.anm f = y) && mE T m e v && notComp v
    | _ => false)
  | .frz _, _ => false
  | .iff c a b, s => (match s with
    | .If x sa sb _ => mE T m c x && noIf x && mSs T m a sa && mSs T m b sb
    | _ => false)
  | .whl c b, s => (match s with
    | .While x body [] _ => mE T m c x && noIf x && mSs T m b body
    | _ => false)
  | .for_ p it b, s => (match s with
    | .For tg iter body [] _ => (mW T m it iter && tgOk it tg) && noOwnW it && notSet iter && mP m p tg && mSs T m b body
    | _ => false)
  | .ret e, s => (match s with
    | .Return (some a) _ => mE T m e a
    | _ => false)
  | .retN, s => (match s with
    | .Return none _ => true
    | _ => false)
  | .pass, s => (match s with
    | .Pass _ => true
    | _ => false)
  | .brk, s => (match s with
    | .Break _ => true
    | _ => false)
  | .cnt, s => (match s with
    | .Continue _ => true
    | _ => false)
  | .never, _ => true
  | .raise c es, s => (match s with
    | .Raise (some (.Call (.Name x _) (a :: as) [] _)) none _ => gnB m x && decide (T.xnm c = some x) && mA T m es (a :: as)
    | _ => false)
def mSs (T : Mt) (m : Mx) : Sms → List Stmt → Bool
  | .nil, ss => (match ss with
    | [] => true
    | _ => false)
  | .cons s r, ss => (match s with
    | .frz _ => mSs T m r ss
    | s => (match ss with
      | st :: ss => mS T m s st && mSs T m r ss
      | [] => false))
end
section
variable {X : Cx} {Z : Ci} {G : Ga} {T : Mt} {W : WX} {m : Mx}
theorem lcB_ok {i : Nat} {x : Str} (c : Cok X m) (h : lcB m i x = true) : X.N[i]? = some x ∧ X.env.scope.names.lookup x = some .local := by
  simp only [lcB, Bool.and_eq_true, decide_eq_true_eq] at h
  refine ⟨by rw [c.N]; exact h.1.1, ?_⟩
  rw [c.sc]
  have h2 := h.1.2
  split at h2
  · assumption
  · cases h2
theorem kind_ok (c : Cok X m) (h : (match m.sc.kind with | .function => true | _ => false) = true) : X.env.scope.kind = .function := by
  rw [c.sc]
  split at h
  · assumption
  · cases h
theorem pair_ok {x y : Str} {px py pt : Pos} {kt k2 : Nat} {pt2 : Pos} {a b : Expr} {env : PySem.Env} (hk : env.scope.kind = .function) (hx : env.scope.names.lookup x = some .local) (hy : env.scope.names.lookup y = some .local) (h : pairB x y px py a b = true) :
    swappedStores [.Tuple [.Name x px, .Name y py] kt pt] (.Tuple [a, b] k2 pt2) env = pure (some [x, y]) := by
  simp only [pairB, Bool.and_eq_true, decide_eq_true_eq, Bool.not_eq_true', beq_iff_eq] at h
  obtain ⟨⟨⟨⟨⟨h1, h2⟩, h3⟩, h4⟩, h5⟩, h6⟩ := h
  have kx : env.kindOf x = some .local := hx
  have ky : env.kindOf y = some .local := hy
  have hb : env.blockKind = .function := by unfold Env.blockKind; rw [hk]; rfl
  have pp : (Expr.Name x px).pos = px := rfl
  unfold swappedStores
  simp only [hb, List.filterMap_cons, List.filterMap_nil, kx, ky, List.head?_cons, Option.map_some, Option.getD_some, pp, h2, h5, h6]
  rw [if_neg (by simp)]
  rw [if_neg (fun hh => by
    rw [List.any_cons, List.any_cons, List.any_nil, Bool.or_false, Bool.or_eq_true] at hh
    rcases hh with hh | hh
    · cases a <;> first | (cases h3; done) | (cases hh; done)
    · cases b <;> first | (cases h4; done) | (cases hh; done))]
  have ne : (x == y) = false := beq_eq_false_iff_ne.mpr h1
  have ne' : (y == x) = false := beq_eq_false_iff_ne.mpr (Ne.symm h1)
  simp only [beq_self_eq_true, Bool.and_self, if_true]
  rw [if_neg (by simp [List.eraseDups, List.eraseDupsBy, List.eraseDupsBy.loop, ne, ne'])]
  simp
theorem noSwap_ok {ts : List Expr} {k : Nat} {p : Pos} {v : Expr} {env : PySem.Env} (h : noSwapB ts v = true) : swappedStores [.Tuple ts k p] v env = pure none := by
  unfold noSwapB at h
  split at h
  · rename_i vs k2 p2
    simp only [Bool.or_eq_true] at h
    unfold swappedStores
    simp only
    by_cases c1 : (!(ts.length == 2 || ts.length == 3) || vs.length != ts.length || env.blockKind != .function) = true
    · rw [if_pos c1]
    · rw [if_neg c1]
      have hf : vs.all (foldedForSure 8) = true := by
        rcases h with h | h
        · exfalso; apply c1; rw [Bool.or_eq_true]; left; rw [Bool.or_eq_true]; exact h
        · exact h
      split
      · rfl
      · split
        · rfl
        · first
            | rfl
            | rw [if_pos hf]
  · cases h
theorem filter_lt {α β : Type} {f : α → Option β} : ∀ {l : List α}, (∃ a ∈ l, f a = none) → (l.filterMap f).length < l.length
  | [], ⟨a, h, _⟩ => by cases h
  | x :: l, ⟨a, h, e⟩ => by
    have le : ∀ l : List α, (l.filterMap f).length ≤ l.length := fun l => List.length_filterMap_le f l
    cases hx : f x with
    | none => rw [List.filterMap_cons_none hx, List.length_cons]; exact Nat.lt_succ_of_le (le l)
    | some y =>
      rw [List.filterMap_cons_some hx, List.length_cons, List.length_cons]
      rcases List.mem_cons.mp h with rfl | h
      · rw [e] at hx; cases hx
      · exact Nat.succ_lt_succ (filter_lt ⟨a, h, e⟩)
theorem noSwapC_ok {ts : List Expr} {k : Nat} {p : Pos} {v : Expr} {env : PySem.Env} (h : noSwapC env.scope ts = true) : swappedStores [.Tuple ts k p] v env = pure none := by
  unfold swappedStores
  cases v <;> first | rfl | skip
  rename_i vs k2 p2
  simp only
  split
  · rfl
  · split
    · rfl
    · rw [if_pos]
      rw [Bool.or_eq_true]; left
      refine bne_iff_ne.mpr (Nat.ne_of_lt (filter_lt ?_))
      obtain ⟨t, ht, hq⟩ := List.any_eq_true.mp h
      refine ⟨t, ht, ?_⟩
      split at hq
      · rename_i id pos
        have hq : ¬ env.scope.names.lookup id = some .local := by simpa using hq
        have : (env.kindOf id == some .local) = false := beq_eq_false_iff_ne.mpr hq
        simp [this]
      · rename_i hne
        cases t <;> first | rfl | exact absurd rfl (hne _ _)
theorem two_star {a b : Expr} {env : PySem.Env} (h3 : notStar a = true) (h4 : notStar b = true) : starEach [a, b] env = (false, eval a env) :: starEach [b] env := star_cons h3
theorem tO_ok {e : Ex} {x : Expr} {o : Bool} (h : GoodE X Z W G e x) (ho : (!o || isFresh e) = true) : PE X x (tO Z W G o e) := by
  cases o with
  | false => exact h.1
  | true => exact h.2.1 (by simpa using ho)
theorem swaps_not1 {a t : Expr} {l : Nat} {env : PySem.Env} (h : notComp a = true) : swapsWithSole [t] a l env = pure false := swaps_not h
theorem sub_assign {o b : Expr} {pos : Pos} {env : PySem.Env} (h : notSlc b = true) (v : Value) : assign (.Subscript o b pos) env v = (do
      let ov ← holding [v] (eval o env)
      let iv ← holding [v, ov] (eval b env)
      standAt pos
      holding [v, ov, iv] (setItem ov iv v)
      release [v, ov, iv] []) := by
  cases b <;> first | rfl | cases h
theorem few1 {a : Expr} {env : PySem.Env} {cp : Pos} (h : notStar a = true) : ((backTo cp (starEach [a] env)).all (fun x => !x.1) && (backToKw cp (keywordEach [] env)).all (fun x => x.1.isSome) && decide ([a].length + ([] : List Keyword).length + (if ([] : List Keyword).isEmpty then 0 else 1) < 30)) = true := by
  rw [star_one h]; rfl
set_option maxHeartbeats 16000000 in
mutual
theorem mS_ok : ∀ (s : Sm) {st : Stmt}, Cok X m → GF X Z G T → L2.Takes X W → PassesOwn (model X.prog X.w) X.A X.env X.xe → mS T m s st = true → PS X st (tS Z W (xs1 G s))
  | .asg i e, st, c, hG, tk, hp, h => by
    unfold mS at h; split at h
    · simp only [Bool.and_eq_true] at h
      obtain ⟨g1, g2, g3⟩ := stB_ok c h.1.1
      exact ss_asg (ps_set (by rw [c.N]; exact c.nd) g1 g2 (mE_ok e c hG tk h.1.2).1 (swaps_not h.2) g3)
    · cases h
  | .own i e, st, c, hG, tk, hp, h => by
    unfold mS at h
    rw [Bool.and_eq_true] at h
    obtain ⟨hf, h⟩ := h
    split at h
    · rename_i x px v pos
      rw [Bool.and_eq_true] at h
      obtain ⟨h1, h⟩ := h
      obtain ⟨g1, g2, g3⟩ := stB_ok c h1
      split at h
      · rename_i hn
        exact ss_own hf (ps_set (by rw [c.N]; exact c.nd) g1 g2 ((mE_ok e c hG tk h).2.1 hf) (swaps_not hn) g3)
      · split at h
        · rename_i e own p it d elt tg iter ifs z sc vp hx
          simp only [Bool.and_eq_true, decide_eq_true_eq, List.all_eq_true] at h
          obtain ⟨⟨⟨⟨⟨⟨⟨⟨⟨⟨⟨⟨h1, hk⟩, hl⟩, ha⟩, h0⟩, rfl⟩, h2⟩, h3⟩, h4⟩, h5⟩, h6⟩, h7⟩, h8⟩ := h
          have ho : (ownL m own).map (·.2) = own := by unfold ownL; rw [List.map_map]; exact (List.map_congr_left fun _ _ => rfl).trans (List.map_id _)
          obtain ⟨k1, k2⟩ := lcB_ok c h1
          refine ss_own hf (sa_comp (Z := Z) (own := own) (ow := ownL m own) (g := gP Z p) c.calm (by rw [c.N]; exact c.nd) k1 k2 (sw_true (kind_ok c hk) k2 hl (by simpa using ha)) (mW_ok it c hG tk h2.1 _ _ (.inr fun _ q => q) h2.2) (by rw [c.N, c.sc]; exact blkOk_by h4) ho (fun i hi => by have := h5 i hi; simpa using this)
            (fun s H C cl fp => (mP_ok (Z := Z) (G := G) (T := T) (blk_cok c) (hG.conv blk_same (blk_fn h0)) h6).1) (fun s H C cl fp => mC_ok d (blk_cok c) (hG.conv blk_same (blk_fn h0)) takes0 h7) (fun s H C cl fp => (mE_ok e (blk_cok c) (hG.conv blk_same (blk_fn h0)) takes0 h8).1) (stP_all p) (folded_not h3))
        · cases h
    · cases h
  | .asgT is e, st, c, hG, tk, hp, h => by
    unfold mS at h; split at h
    · simp only [Bool.and_eq_true] at h
      exact ss_asgT (stP_all _) (ps_asg (mE_ok e c hG tk h.1.1.2).1 (mP_ok (Z := Z) (G := G) (T := T) c hG h.1.1.1).1 (swaps_not1 h.1.2) (by
        have h2 := h.2
        rw [Bool.or_eq_true] at h2
        rw [Bool.or_eq_true] at h2
        exact h2.elim (fun q => q.elim (fun q => stores_not q) noSwap_ok) fun q => noSwapC_ok (by rw [c.sc]; exact q)))
    · cases h
  | .par i oi a j oj b, st, c, hG, tk, hp, h => by
    unfold mS at h; split at h
    · simp only [Bool.and_eq_true, decide_eq_true_eq] at h
      obtain ⟨⟨⟨⟨⟨⟨⟨⟨h1, h2⟩, h3⟩, hk⟩, h4⟩, h5⟩, h6⟩, h7⟩, h8⟩ := h
      obtain ⟨k1, k2⟩ := lcB_ok c h2
      obtain ⟨k3, k4⟩ := lcB_ok c h3
      have hpp := h4
      simp only [pairB, Bool.and_eq_true] at h4
      exact ss_par h1 (ps_par c.calm (by rw [c.N]; exact c.nd) k1 k3 h1 k2 k4 (pa_two (tO_ok (mE_ok a c hG tk h5) h7) (tO_ok (mE_ok b c hG tk h6) h8) (star_cons h4.1.1.1.2) (star_one h4.1.1.2)) (pair_ok (kind_ok c hk) k2 k4 hpp))
    · cases h
  | .par3 i a j b l d, st, c, hG, tk, hp, h => by
    unfold mS at h; split at h
    · simp only [Bool.and_eq_true, decide_eq_true_eq] at h
      obtain ⟨⟨⟨⟨⟨⟨⟨⟨⟨⟨⟨⟨⟨h1, h2⟩, h3⟩, h4⟩, h5⟩, h6⟩, hk⟩, h7⟩, h8⟩, h9⟩, h10⟩, n1⟩, n2⟩, n3⟩ := h
      obtain ⟨k1, k2⟩ := lcB_ok c h4
      obtain ⟨k3, k4⟩ := lcB_ok c h5
      obtain ⟨k5, k6⟩ := lcB_ok c h6
      exact ss_par3 (ps_par3 c.calm (by rw [c.N]; exact c.nd) k1 k3 k5 h1 h2 h3 k2 k4 k6 (pa_cons (mE_ok a c hG tk h8).1 (pa_cons (mE_ok b c hG tk h9).1 (pa_cons (mE_ok d c hG tk h10).1 pa_nil (star_cons n3)) (star_cons n2)) (star_cons n1)) (trip_ok (kind_ok c hk) k2 k4 k6 h7))
    · cases h
  | .exp e, st, c, hG, tk, hp, h => by
    unfold mS at h; split at h
    · simp only [Bool.and_eq_true] at h
      exact ss_exp (mE_ok e c hG tk h.1).1 (swaps_not h.2)
    · cases h
  | .app i e, st, c, hG, tk, hp, h => by
    unfold mS at h; split at h
    · simp only [Bool.and_eq_true, decide_eq_true_eq] at h
      obtain ⟨⟨⟨⟨h1, rfl⟩, h3⟩, h4⟩, h5⟩ := h
      obtain ⟨g1, g2, g3, g4⟩ := nmB_ok c h1
      exact ss_app (ps_expr (pe_bm PySem.F.plainAttrs_list PySem.F.slot_list_append PySem.F.type_list_append mt_append (pe_var g1 g2 g3 g4) (pa_one (mE_ok e c hG tk h3).1 (star_one h4)) (base_not rfl) (few1 h4) h5 (star_one h4) rfl) (swaps_not rfl))
    · cases h
  | .appPop i j e, st, c, hG, tk, hp, h => by
    unfold mS at h; split at h
    · simp only [Bool.and_eq_true, decide_eq_true_eq] at h
      obtain ⟨⟨⟨⟨⟨⟨⟨h1, h2⟩, rfl⟩, rfl⟩, h3⟩, h4⟩, h5⟩, h6⟩ := h
      obtain ⟨g1, g2, g3, g4⟩ := nmB_ok c h1
      obtain ⟨k1, k2, k3, k4⟩ := nmB_ok c h2
      exact ss_appPop (ps_expr (pe_bm PySem.F.plainAttrs_list PySem.F.slot_list_append PySem.F.type_list_append mt_append (pe_var g1 g2 g3 g4) (pa_one (pe_bm PySem.F.plainAttrs_list PySem.F.slot_list_pop PySem.F.type_list_pop mt_popAt (pe_var k1 k2 k3 k4) (pa_one (mE_ok e c hG tk h3).1 (star_one h4)) (base_not rfl) (few1 h4) h6 (star_one h4) rfl) (star_one rfl)) (base_not rfl) (few1 rfl) h5 (star_one rfl) rfl) (swaps_not rfl))
    · cases h
  | .setI i k e, st, c, hG, tk, hp, h => by
    unfold mS at h; split at h
    · simp only [Bool.and_eq_true] at h
      obtain ⟨⟨⟨⟨⟨h1, h2⟩, h3⟩, h4⟩, h5⟩, h6⟩ := h
      obtain ⟨g1, g2, g3, g4⟩ := nmB_ok c h1
      exact ss_setI (ps_asg (mE_ok e c hG tk h3).1 (pg_sub (pe_var g1 g2 g3 g4) (mE_ok k c hG tk h2).1 set_list (sub_assign h6)) (swaps_not1 h4) (stores_not h5))
    · cases h
  | .dset i k e, st, c, hG, tk, hp, h => by
    unfold mS at h; split at h
    · simp only [Bool.and_eq_true, decide_eq_true_eq] at h
      obtain ⟨⟨⟨h1, rfl⟩, h3⟩, h4⟩ := h
      obtain ⟨g1, g2, g3, g4⟩ := nmB_ok c h1
      have hu := hG.units
      exact ss_dset (ps_dput (by omega) (pe_var g1 g2 g3 g4) pe_str (mE_ok e c hG tk h3).1 (swaps_not h4))
    · cases h
  | .sfl i f e, st, c, hG, tk, hp, h => by
    unfold mS at h; split at h
    · simp only [Bool.and_eq_true, decide_eq_true_eq] at h
      obtain ⟨⟨⟨h1, rfl⟩, h3⟩, h4⟩ := h
      obtain ⟨g1, g2, g3, g4⟩ := nmB_ok c h1
      exact ss_sfl hG.fld (ps_fld (pe_var g1 g2 g3 g4) (mE_ok e c hG tk h3).1 (swaps_not h4))
    · cases h
  | .frz i, st, c, hG, tk, hp, h => by unfold mS at h; cases h
  | .iff d a b, st, c, hG, tk, hp, h => by
    unfold mS at h; split at h
    · simp only [Bool.and_eq_true] at h
      exact ss_iff ((mE_ok d c hG tk h.1.1.1).2.2 h.1.1.2) (mSs_ok a c hG tk hp h.1.2) (mSs_ok b c hG tk hp h.2)
    · cases h
  | .whl d b, st, c, hG, tk, hp, h => by
    unfold mS at h; split at h
    · simp only [Bool.and_eq_true] at h
      exact ss_whl hp ((mE_ok d c hG tk h.1.1).2.2 h.1.2) (mSs_ok b c hG tk hp h.2)
    · cases h
  | .for_ p it b, st, c, hG, tk, hp, h => by
    unfold mS at h; split at h
    · simp only [Bool.and_eq_true] at h
      obtain ⟨⟨⟨⟨h1, h2⟩, h3⟩, h4⟩, h5⟩ := h
      exact ss_for hp c.calm (fun O => mW_ok it c hG tk h1.1 O _ (.inl h2) h1.2) (mP_ok (Z := Z) (G := G) (T := T) c hG h4).1 (stP_all p) (mSs_ok b c hG tk hp h5) (folded_not h3)
    · cases h
  | .ret e, st, c, hG, tk, hp, h => by
    unfold mS at h; split at h
    · exact ss_ret (mE_ok e c hG tk h).1
    · cases h
  | .retN, st, c, hG, tk, hp, h => by
    unfold mS at h; split at h
    · exact ss_retN
    · cases h
  | .pass, st, c, hG, tk, hp, h => by
    unfold mS at h; split at h
    · exact ss_pass
    · cases h
  | .brk, st, c, hG, tk, hp, h => by
    unfold mS at h; split at h
    · exact ss_brk
    · cases h
  | .cnt, st, c, hG, tk, hp, h => by
    unfold mS at h; split at h
    · exact ss_cnt
    · cases h
  | .never, st, c, hG, tk, hp, h => ss_never
  | .raise k es, st, c, hG, tk, hp, h => by
    unfold mS at h; split at h
    · simp only [Bool.and_eq_true, decide_eq_true_eq] at h
      obtain ⟨g1, g2⟩ := gnB_ok c h.1.1
      obtain ⟨⟨fI, xs, f1, f2, f3, f4, f5, f6⟩, f7⟩ := hG.ra k _ h.1.2
      have g := mA_ok es c hG tk h.2
      have hr : Room (0 + 1) X.A := hG.room
      exact ss_raise c.calm tk f1 f2 f3 f4 f5 f6 hr g1 f7 g.1 g2 (g.star (pos := default) _ _ rfl).1 (g.star _ _ rfl).2
    · cases h
theorem mSs_ok : ∀ (ss : Sms) {sts : List Stmt}, Cok X m → GF X Z G T → L2.Takes X W → PassesOwn (model X.prog X.w) X.A X.env X.xe → mSs T m ss sts = true → PSs X sts (tS Z W (xss G ss))
  | .nil, sts, c, hG, tk, hp, h => by
    unfold mSs at h; split at h
    · exact ss_nil
    · cases h
  | .cons s r, sts, c, hG, tk, hp, h => by
    unfold mSs at h
    split at h
    · exact ss_frz (mSs_ok r c hG tk hp h)
    · split at h
      · simp only [Bool.and_eq_true] at h
        exact ss_cons (mS_ok s c hG tk hp h.1) (mSs_ok r c hG tk hp h.2)
      · cases h
end
end
end Mi

set_option Elab.async false
set_option linter.all false
set_option maxRecDepth 100000
set_option maxHeartbeats 8000000
/-! Mi, part 25: defs. -/
namespace Mi
open PySem PySem.Spec PyProof.Rows L2
/-- a def of the text -/
structure Fx where
  name : Str
  qual : Str
  params : Arguments
  body : List Stmt
  scope : Scope
  N : List Str
  ps : List Str
  dvs : List V
def lev (n : Nat) : Nat := 8 * n
/-- the parameters that stand ahead of the arguments: self -/
def ext1 (f : Fd) : Nat := match f.ini with
  | none => 0
  | some _ => 1
/-- what the def's block knows of its names -/
def Fx.m (x : Fx) : Mx := ⟨x.N, x.scope, fun _ => true, x.qual ++ ".<locals>."⟩
/-- the names' table, seen from a def with lambdas of its own -/
def Mt.at_ (T : Mt) (f : Fd) (x : Fx) : Mt := { T with own := !f.lams.isEmpty, lmt := fun k b s => match f.lams[k]? with
  | some a => LamX.lamSB x.scope s && mE T (lamM x.m s) a b
  | none => false }
structure FnF (K : PySem.W.Frag) (Z : Ci) (T : Mt) (f : Fd) (x : Fx) (a : Addr) (ar : Nat → Bool) : Prop where
  fd : ∃ fd, FunD K x.name x.qual x.params x.body x.scope x.dvs [] a fd ∧ ∀ k, ar k = true → k ≤ x.ps.length ∧ x.ps.length ≤ k + x.dvs.length ∧ ∃ ds, Vals (x.dvs.drop (x.dvs.length - (x.ps.length - k))) ds ∧ Binds K fd x.ps ds
  sc : FnScope x.N x.ps x.scope
  np : f.np = x.ps.length
  ns : f.ns = x.N.length
  dfl : ∀ F ρ, Reps Z F ρ f.dfl x.dvs
  body : mSs (T.at_ f x) x.m f.body x.body = true
  ini : ∀ c, f.ini = some c → ∃ y r, x.ps = y :: r
/-- a def with lambdas of its own: nobody calls it but the law's end -/
structure OwL (T : Mt) (f : Fd) (x : Fx) (ar : Nat → Bool) : Prop where
  ini : f.ini = none
  ar : ∀ k, ar k = false
  lam : T.lam (x.qual ++ ".<locals>.") = true
  lam2 : T.lam (x.qual ++ ".<locals>." ++ "<lambda>" ++ ".<locals>.") = false
/-- what is known of a law's text -/
structure LF (prog : Program) (base : Heap) (K : PySem.W.Frag) (mg : Str → Option Value) (Z : Ci) (T : Mt) (P : Pg) (adr : Nat → Addr) (fx : Nat → Fx) (ar : Nat → Nat → Bool) : Prop where
  hK : K = Z.K
  fn : ∀ i f, P.fns i = some f → FnF K Z T f (fx i) (adr i) (ar i)
  call : ∀ f x k, T.fnm f = some x → T.far f k = true → mg x = some (.ref (adr f)) ∧ ∃ d, P.fns f = some d ∧ d.ini = none ∧ ar f k = true
  cnm : ∀ c x, T.cnm c = some x → mg x = some (.ref (Z.ca c))
  new : ∀ c k, T.car c k = true → ∃ cl f, P.cls c = some cl ∧ P.fns cl.init = some f ∧ f.ini = some c ∧ Mk K (Z.ca c) (adr cl.init) ∧ ar cl.init (k + 1) = true
  mth : ∀ i y k, T.mnm i = some y → T.mar i k = true → (∃ c cl f, P.cls c = some cl ∧ cl.mth i = some f) ∧ ∀ c cl f, P.cls c = some cl → cl.mth i = some f → Cls K (Z.ca c) ∧ Meth K (Z.ca c) y (adr f) ∧ (∀ z ∈ Z.cn c, z ≠ y) ∧ ∃ d, P.fns f = some d ∧ d.ini = none ∧ ar f (k + 1) = true
  con : ∀ i x, T.knm i = some x → ∃ d v u, P.con i = some d ∧ mg x = some u ∧ RelV v u ∧ ∀ F ρ, Rep Z F ρ d v
  blt : ∀ x ∈ blts, mg x = none
  gcd : T.gcd = true → mg "gcd" = some (.builtin "math.gcd")
  fld : ∀ c cl, P.cls c = some cl → Z.cn c = cl.at_.map T.anm ∧ (∀ f g, f < T.na → g ∈ cl.at_ → T.anm g = T.anm f → g = f) ∧ Cls K (Z.ca c) ∧ (∀ f ∈ cl.at_, NoAttr K (Z.ca c) (T.anm f)) ∧ cl.at_.Nodup ∧ ∀ f ∈ cl.at_, f < T.na
  op : ∀ o c cl f, P.cls c = some cl → cl.op o = some f → PySem.W.selfFirst K (Z.ca c) = true ∧ OpD K (Z.ca c) (adr f) (opN o) ∧ PySem.W.subIn K (.type "int") (.ref (Z.ca c)) = some false ∧ ∃ d, P.fns f = some d ∧ d.ini = none ∧ ar f 2 = true
  op2 : ∀ (o : Bi) c k f d k' f', P.cls c = some k → k.op o = some f → P.cls d = some k' → k'.op o = some f' → Z.ca c ≠ Z.ca d → PySem.W.subIn K (.ref (Z.ca d)) (.ref (Z.ca c)) = some false
  rev : ∀ o c cl f, P.cls c = some cl → cl.rop o = some f → PySem.W.selfFirst K (Z.ca c) = true ∧ (∃ b, PySem.W.findIn K (.ref (Z.ca c)) (dunderR (opN o)) = some (some (.ref (adr f))) ∧ PySem.W.isFn K (.ref (adr f)) = true ∧ PySem.W.findIn K (.ref (Z.ca c)) (PySem.dunder (opN o)) = some (some (.ref b))) ∧ PySem.W.subIn K (.ref (Z.ca c)) (.type "int") = some false ∧ ∃ d, P.fns f = some d ∧ d.ini = none ∧ ar f 2 = true
  iop : ∀ o, (∃ c cl f, P.cls c = some cl ∧ cl.rop o = some f) → IntOp o
  int : ∀ o : Bi, ∃ fo ro, PySem.W.findIn K (.type "int") (PySem.dunder (opN o)) = some fo ∧ PySem.W.findIn K (.type "int") (dunderR (opN o)) = some ro
  neg : ∀ c cl f, P.cls c = some cl → cl.neg = some f → PySem.W.findIn K (.ref (Z.ca c)) "__neg__" = some (some (.ref (adr f))) ∧ PySem.W.isFn K (.ref (adr f)) = true ∧ ∃ d, P.fns f = some d ∧ d.ini = none ∧ ar f 1 = true
  kit : ∀ d t, (match d with | D.ins c _ => (P.cls c).isSome | D.fn _ => false | _ => true) = true → (match t with | Ty.cls c => (P.cls c).isSome | _ => true) = true → PySem.W.kitOne K (tyVal Z d) (tyTgt Z t) = some (tyIs t d)
  kcl : ∀ c, (P.cls c).isSome = true → PySem.W.findIn K (.ref (Z.ca c)) "__class__" = some (some (.builtin "object.__class__")) ∧ PySem.W.mroIn K (Z.ca c) (.type "object") = some true
  kget : PySem.W.specialIn K (.builtin "object.__class__") "__get__" = some (some (.builtin "getset_descriptor.__get__")) ∧ PySem.W.takesIn K (.builtin "object.__class__") = some true
  co : ∀ g y, T.gnm g = some y → CoF K mg Z (gaOf P 0 0) T.anm g y
  xf : ∀ c fs, P.xat c = some fs → XcF K Z T.anm T.na c fs
  xs : ∀ c k fs, P.xat c = some fs → PySem.W.exmOne K (.ref (Z.xa c)) (.ref (Z.xa k)) = some (P.xsub c k)
  rpr : ∀ d s v F ρ, P.rpr d = some s → Rep Z F ρ d v → reprL v = some (toS s)
  ra : ∀ c x, T.xnm c = some x → RaF prog K mg Z (gaOf P 0 0) c x
  eqf : ∀ c cl f, P.cls c = some cl → cl.eq = some f → PySem.W.findIn K (.ref (Z.ca c)) "__eq__" = some (some (.ref (adr f))) ∧ PySem.W.isFn K (.ref (adr f)) = true ∧ PySem.W.findIn K (.ref (Z.ca c)) "__ne__" = some (some (.builtin "object.__ne__")) ∧ PySem.W.mroIn K (Z.ca c) (.type "object") = some true ∧ ∃ d, P.fns f = some d ∧ d.ini = none ∧ d.np = 2 ∧ ar f 2 = true
  nown : T.own = false
  own : ∀ i f, P.fns i = some f → f.lams ≠ [] → OwL T f (fx i) (ar i)
  lam : ∀ i f, P.fns i = some f → T.lam ((fx i).qual ++ ".<locals>.") = true → ∃ c Pt, (∀ oc od fd osl, K.lookup (adr i) = some ⟨oc, od, .func fd, osl⟩ → fd.code = .ref c) ∧ LamX.TabB base mg c Pt ∧ (Pt, (fx i).qual ++ ".<locals>." ++ "<lambda>") ∈ Z.tb ∧ ∀ p ∈ Z.tb, p.1 = Pt → p.2 = (fx i).qual ++ ".<locals>." ++ "<lambda>"
theorem padU_eq : ∀ (n : Nat) (v : Env), padU n v = v ++ List.replicate n .un
  | 0, v => by simp [padU]
  | n + 1, v => by rw [padU, padU_eq n, List.append_assoc]; rfl
theorem filled_full {f : Fd} {ds : List D} (h : ds.length = f.np) : filled f ds = some ds := by
  unfold filled
  simp [h]
theorem filled_more {f : Fd} {l : List D} {k : Nat} (hl : l.length = k) (h1 : k ≤ f.np) (h2 : f.np ≤ k + f.dfl.length) : filled f l = some (l ++ f.dfl.drop (f.dfl.length - (f.np - k))) := by
  unfold filled
  subst hl
  simp only
  rw [if_pos ⟨h1, by omega⟩]
theorem runF_more {G : Ga} {f : Fd} {l : List D} {k : Nat} {S : Sto} (hl : l.length + ext1 f = k) (h1 : k ≤ f.np) (h2 : f.np ≤ k + f.dfl.length) : runF G f l S = runF G f (l ++ f.dfl.drop (f.dfl.length - (f.np - k))) S := by
  have hd : (l ++ f.dfl.drop (f.dfl.length - (f.np - k))).length + ext1 f = f.np := by
    rw [List.length_append, List.length_drop]; omega
  unfold runF
  cases e : f.ini with
  | none =>
    have e1 : ext1 f = 0 := by unfold ext1; rw [e]
    rw [e1] at hl hd
    simp only
    rw [filled_more (by omega) h1 h2, filled_full (by omega)]
  | some c =>
    have e1 : ext1 f = 1 := by unfold ext1; rw [e]
    rw [e1] at hl hd
    simp only
    rw [filled_more (l := .non :: l) (k := k) (by simp; omega) h1 h2, filled_full (ds := .non :: (l ++ _)) (by simp at hd ⊢; omega)]
    rfl
section
variable {K : PySem.W.Frag} {mg : Str → Option Value} {Z : Ci} {T : Mt} {P : Pg} {adr : Nat → Addr} {fx : Nat → Fx} {ar : Nat → Nat → Bool} {prog : Program} {w : World} {base : Heap} {fuel : Nat}
/-- the promise of a def with lambdas of its own: a truth value -/
def spO (Z : Ci) (call : List D → Sto → R D) (np : Nat) : Sp := fun vs H Q E => vs.length = np ∧ ∃ F ρ S ds, (∀ c : Fc, StoR (Z.at_ c) F ρ S H) ∧ (∀ c : Fc, Reps (Z.at_ c) F ρ ds vs) ∧ ∃ b S', call ds S = .ok (.bl b) S' ∧ ∀ H', Q (.bl b) H'
/-- a def's promise at depth n -/
def spN (Z : Ci) (P : Pg) (fuel n i : Nat) (f : Fd) : Sp := match f.ini with
  | none => (match f.lams with
    | [] => spF Z (callN P fuel n i) f.np
    | _ :: _ => spO Z (callN P fuel n i) f.np)
  | some c => spI Z (callN P fuel n i) c f.np
/-- all defs keep their promises at depth n -/
def FnsOk (K : PySem.W.Frag) (mg : Str → Option Value) (Z : Ci) (P : Pg) (adr : Nat → Addr) (fx : Nat → Fx) (prog : Program) (w : World) (base : Heap) (fuel n : Nat) : Prop := ∀ i f, P.fns i = some f → ∀ fd, FunD K (fx i).name (fx i).qual (fx i).params (fx i).body (fx i).scope (fx i).dvs [] (adr i) fd →
  FnOk prog w K mg base (L2.CX prog w) (lev n) (adr i) fd (fx i).ps (spN Z P fuel n i f)
theorem callN_more {n i k : Nat} {f : Fd} {l : List D} {S : Sto} (hf : P.fns i = some f) (hl : l.length + ext1 f = k) (h1 : k ≤ f.np) (h2 : f.np ≤ k + f.dfl.length) : callN P fuel n i l S = callN P fuel n i (l ++ f.dfl.drop (f.dfl.length - (f.np - k))) S := by
  cases n with
  | zero => rfl
  | succ n =>
    unfold callN
    rw [hf]
    exact runF_more hl h1 h2
theorem drop_reps {F : Hp} {ρ : List Addr} {l : List D} {vs : List V} (h : Reps Z F ρ l vs) (n : Nat) : Reps Z F ρ (l.drop (l.length - n)) (vs.drop (vs.length - n)) := by
  rw [h.len]; exact h.drop _
theorem LF.noLams {i k : Nat} {d : Fd} (L : LF prog base K mg Z T P adr fx ar) (hf : P.fns i = some d) (ha : ar i k = true) : d.lams = [] := by
  cases e : d.lams with
  | nil => rfl
  | cons a l =>
    have := (L.own i d hf (by rw [e]; simp)).ar k
    rw [ha] at this; cases this
theorem calF_of {X : Cx} {n i k : Nat} {d : Fd} (L : LF X.prog X.base K mg Z T P adr fx ar) (IH : FnsOk K mg Z P adr fx X.prog X.w X.base fuel n) (hr : Room (lev n) X.A) (e3 : X.K = K) (e4 : X.mg = mg) (hf : P.fns i = some d) (hi : d.ini = none) (ha : ar i k = true) : CalF X Z (callN P fuel n i) (adr i) k := by
  have FF := L.fn i d hf
  obtain ⟨fd, hfd, hb⟩ := FF.fd
  obtain ⟨h1, h2, ds, hd, hB⟩ := hb k ha
  have hok := IH i d hf fd hfd
  have e1 : ext1 d = 0 := by unfold ext1; rw [hi]
  have hdl : d.dfl.length = (fx i).dvs.length := (FF.dfl (fun _ => none) []).len
  refine ⟨fd, (fx i).ps, _, ds, d.dfl.drop (d.dfl.length - (d.np - k)), lev n, ?_, hr, by rw [e3]; exact hB, hd, ?_, fun F ρ => ?_, fun l S hl => callN_more hf (by omega) (by rw [FF.np]; exact h1) (by rw [FF.np, hdl]; exact h2)⟩
  · rw [e3, e4, ← FF.np]
    unfold spN at hok
    rw [hi, L.noLams hf ha] at hok
    exact hok
  · rw [List.length_drop]; omega
  · rw [FF.np]
    exact drop_reps (FF.dfl F ρ) _
theorem calI_of {X : Cx} {n i c k : Nat} {d : Fd} (L : LF X.prog X.base K mg Z T P adr fx ar) (IH : FnsOk K mg Z P adr fx X.prog X.w X.base fuel n) (hr : Room (lev n + 1) X.A) (e3 : X.K = K) (e4 : X.mg = mg) (hf : P.fns i = some d) (hi : d.ini = some c) (ha : ar i (k + 1) = true) (hM : Mk K (Z.ca c) (adr i)) : CalI X Z (callN P fuel n i) c k := by
  have FF := L.fn i d hf
  obtain ⟨fd, hfd, hb⟩ := FF.fd
  obtain ⟨h1, h2, ds, hd, hB⟩ := hb (k + 1) ha
  have hok := IH i d hf fd hfd
  have e1 : ext1 d = 1 := by unfold ext1; rw [hi]
  have hdl : d.dfl.length = (fx i).dvs.length := (FF.dfl (fun _ => none) []).len
  refine ⟨adr i, fd, (fx i).ps, _, ds, d.dfl.drop (d.dfl.length - (d.np - (k + 1))), lev n, by rw [e3]; exact hM, ?_, hr, by rw [e3]; exact hB, hd, ?_, fun F ρ => ?_, fun l S hl => callN_more hf (by omega) (by rw [FF.np]; exact h1) (by rw [FF.np, hdl]; exact h2)⟩
  · rw [e3, e4, ← FF.np]
    unfold spN at hok
    rw [hi] at hok
    exact hok
  · rw [List.length_drop]; omega
  · rw [FF.np]
    exact drop_reps (FF.dfl F ρ) _
theorem opsF_of {X : Cx} {n : Nat} {o : Bi} (L : LF X.prog X.base K mg Z T P adr fx ar) (IH : FnsOk K mg Z P adr fx X.prog X.w X.base fuel n) (hr : Room (lev n) X.A) (e3 : X.K = K) (e4 : X.mg = mg) : OpsF X Z (gaOf P fuel n) o := by
  refine ⟨fun c k f h1 h2 => ?_, fun c k f d k' f' h1 h2 h3 h4 h5 => by rw [e3]; exact L.op2 o c k f d k' f' h1 h2 h3 h4 h5, fun c k f h1 h2 => ?_, by rw [e3]; exact L.int o⟩
  · obtain ⟨g1, g2, g3, d, g4, g5, g6⟩ := L.op o c k f h1 h2
    rw [e3]
    exact ⟨g1, ⟨adr f, g2, calF_of L IH hr e3 e4 g4 g5 g6⟩, g3⟩
  · obtain ⟨g1, ⟨b, g2, g3, g3'⟩, g4, d, g5, g6, g7⟩ := L.rev o c k f h1 h2
    rw [e3]
    exact ⟨g1, ⟨adr f, b, g2, g3, g3', calF_of L IH hr e3 e4 g5 g6 g7⟩, g4⟩
theorem gfb_of {X : Cx} {n : Nat} (L : LF X.prog X.base K mg Z T P adr fx ar) (IH : FnsOk K mg Z P adr fx X.prog X.w X.base fuel n) (hr : Room (lev n + 5) X.A) (e3 : X.K = K) (e4 : X.mg = mg) : GFb X Z (gaOf P fuel n) T := by
  have r0 : Room (lev n) X.A := hr.mono (by omega)
  have r1 : Room (lev n + 1) X.A := hr.mono (by omega)
  have cal : ∀ {i k : Nat} {d : Fd}, P.fns i = some d → d.ini = none → ar i k = true → CalF X Z ((gaOf P fuel n).call i) (adr i) k := fun h1 h2 h3 => calF_of L IH r0 e3 e4 h1 h2 h3
  have un := hr.un
  refine ⟨e3.trans L.hK, by omega, fun f x k h1 h2 => ?_, fun c x k h1 h2 => ?_, fun c x h1 => by rw [e4]; exact L.cnm c x h1, fun i y k h1 h2 => ?_, fun i x h1 => by rw [e4]; exact L.con i x h1, fun x hx => by rw [e4]; exact L.blt x hx, fun g => by rw [e4]; exact L.gcd g, fun c k h1 => ?_, fun o => opsF_of L IH r0 e3 e4,
    opsF_of (X := X1 X) L IH (show Room (lev n) X.A.in1 from (r1.in1)) e3 e4, L.iop, ⟨fun c k f h1 h2 => ?_⟩, ⟨fun d t h1 h2 => ?_, fun c h1 => ?_, by rw [e3]; exact L.kget⟩, hr.mono (by omega), fun g y h1 => by rw [e3, e4]; exact ⟨(L.co g y h1).ex⟩, fun c fs h1 => by rw [e3]; exact L.xf c fs h1, fun c k fs h1 => by rw [e3]; exact L.xs c k fs h1, L.rpr, fun c x h1 => by rw [e3, e4]; exact ⟨(L.ra c x h1).ex, (L.ra c x h1).at_⟩, ⟨lev n, hr, fun c k f h1 h2 => ?_⟩⟩
  · obtain ⟨g1, d, g2, g3, g4⟩ := L.call f x k h1 h2
    obtain ⟨fd, hfd, _⟩ := (L.fn f d g2).fd
    rw [e3, e4]
    exact ⟨adr f, g1, hfd.kp, cal g2 g3 g4⟩
  · obtain ⟨cl, f, g1, g2, g3, g4, g5⟩ := L.new c k h2
    rw [e4]
    exact ⟨L.cnm c x h1, cl, g1, calI_of L IH r1 e3 e4 g2 g3 g5 g4⟩
  · obtain ⟨g1, g2⟩ := L.mth i y k h1 h2
    refine ⟨g1, fun c cl f h3 h4 => ?_⟩
    obtain ⟨k1, k2, k3, d, k4, k5, k6⟩ := g2 c cl f h3 h4
    rw [e3]
    exact ⟨adr f, k1, k2, k3, cal k4 k5 k6⟩
  · obtain ⟨g1, g2, g3, g4, g5, g6⟩ := L.fld c k h1
    exact ⟨g1, g2, by rw [e3]; exact g3, by rw [e3]; exact g4, g5, g6⟩
  · obtain ⟨g1, g2, d, g3, g4, g5⟩ := L.neg c k f h1 h2
    rw [e3]
    exact ⟨adr f, g1, g2, cal g3 g4 g5⟩
  · rw [e3]
    refine L.kit d t ?_ ?_
    · cases d <;> first | rfl | exact h1
    · cases t <;> first | rfl | exact h2
  · rw [e3]
    obtain ⟨k, hk⟩ := Option.isSome_iff_exists.mp h1
    exact ⟨(L.fld c k hk).2.2.1, L.kcl c h1⟩
  · obtain ⟨g1, g2, g3, g4, d, g5, g6, g7, g8⟩ := L.eqf c k f h1 h2
    have FF := L.fn f d g5
    obtain ⟨fd, hfd, hb⟩ := FF.fd
    obtain ⟨_, _, ds, hd, hB⟩ := hb 2 g8
    have hok := IH f d g5 fd hfd
    have hps : (fx f).ps.length = 2 := by rw [← FF.np]; exact g7
    have : ds = [] := by
      rw [hps, Nat.sub_self, Nat.sub_zero, List.drop_length] at hd
      cases hd; rfl
    subst this
    rw [e3]
    refine ⟨adr f, fd, (fx f).ps, ?_, hB, g1, g2, g3, g4⟩
    rw [e4]
    unfold spN at hok
    rw [g6, L.noLams g5 g8, g7] at hok
    exact hok
/-- what is known does not hang on the lambdas -/
theorem GFb.withL {X : Cx} {G : Ga} {T : Mt} (h : GFb X Z G T) (l : Nat → Env → Sto → R D) (o : Bool) (t : Nat → Expr → Scope → Bool) : GFb X Z { G with lam := l } { T with own := o, lmt := t } :=
  ⟨h.hK, h.units, h.call, h.new, h.cnm, fun i y k h1 h2 => ⟨(h.mth i y k h1 h2).1, (h.mth i y k h1 h2).2⟩, h.con, h.blt, h.gcd, h.fld, fun o => ⟨(h.ops o).one, (h.ops o).two, (h.ops o).rev, (h.ops o).int⟩, ⟨h.ops1.one, h.ops1.two, h.ops1.rev, h.ops1.int⟩, h.iop, ⟨h.neg.one⟩, ⟨h.isf.kit, h.isf.cls, h.isf.get⟩, h.room,
    fun g y h1 => ⟨(h.co g y h1).ex⟩, h.xf, h.xs, h.rpr, fun c x h1 => ⟨(h.ra c x h1).ex, (h.ra c x h1).at_⟩, ⟨h.eqf.ex⟩⟩
theorem withL_eq (G : Ga) (l : List Ex) : withL G l = { G with lam := match l with | [] => G.lam | _ :: _ => lamsOf G l } := by cases l <;> rfl
theorem gf_of {X : Cx} {n i : Nat} {f : Fd} (L : LF X.prog X.base K mg Z T P adr fx ar) (IH : FnsOk K mg Z P adr fx X.prog X.w X.base fuel n) (hr : Room (lev n + 7) X.A) (e3 : X.K = K) (e4 : X.mg = mg) (cok : Cok X (fx i).m) (hf : P.fns i = some f)
    (hl : T.lam X.env.qual = true → ∃ c Pt, LamX.TabB X.base mg c Pt ∧ X.env.code = .ref c ∧ (Pt, X.env.qual ++ "<lambda>") ∈ Z.tb ∧ ∀ p ∈ Z.tb, p.1 = Pt → p.2 = X.env.qual ++ "<lambda>")
    (ho : f.lams ≠ [] → X.env.cells = Z.cl ∧ Z.lq = X.env.qual ++ "<lambda>" ∧ ∀ k b s, Z.lg k b s ↔ (T.at_ f (fx i)).lmt k b s = true) : GF X Z (withL (gaOf P fuel n) f.lams) (T.at_ f (fx i)) := by
  rw [withL_eq]
  refine ⟨(gfb_of L IH (hr.mono (by omega)) e3 e4).withL _ _ _, fun h => ⟨by rw [e4]; exact hl h, lev n + 5, hr, fun X1 k1 k2 k3 k4 k5 hr1 => ?_⟩, fun h1 _ => ?_⟩
  · exact (gfb_of (by rw [k1, k5]; exact L) (by rw [k1, k2, k5]; exact IH) hr1 (k3.trans e3) (k4.trans e4)).withL _ _ _
  · have hne : f.lams ≠ [] := fun z => by
      have h1 : (!f.lams.isEmpty) = true := h1
      rw [z] at h1; cases h1
    obtain ⟨o1, o2, o3⟩ := ho hne
    have O := L.own i f hf hne
    refine ⟨o1, o2, o3, by rw [cok.q]; exact O.lam, fun k b s hk => ?_⟩
    have hk : (match f.lams[k]? with
      | some a => LamX.lamSB (fx i).scope s && mE T (lamM (fx i).m s) a b
      | none => false) = true := hk
    cases ea : f.lams[k]? with
    | none => rw [ea] at hk; cases hk
    | some a =>
      rw [ea] at hk
      simp only [Bool.and_eq_true] at hk
      refine ⟨by rw [cok.sc]; exact LamX.lamS_by hk.1, fun X1 e1 e2 e3 e4 e5 g W1 t1 => ?_⟩
      have cok1 : Cok X1 (lamM (fx i).m s) := ⟨e1.trans cok.N, cok.nd, e2, e3, e4, by rw [e5, cok.q]; rfl⟩
      have g0 : GFb X1 Z (gaOf P fuel n) T := by
        have := g.withL (gaOf P fuel n).lam T.own T.lmt
        exact this
      have gf : GF X1 Z (gaOf P fuel n) T := ⟨g0, fun q => by
        rw [cok1.q] at q
        exact absurd (q.symm.trans O.lam2) (by simp), fun q => by rw [L.nown] at q; cases q⟩
      have pe := (mE_ok a cok1 gf t1 hk.2).1
      have er : (match f.lams with | [] => (gaOf P fuel n).lam | _ :: _ => lamsOf (gaOf P fuel n) f.lams) k = ev (gaOf P fuel n) a := by
        funext v S
        cases el : f.lams with
        | nil => exact absurd el hne
        | cons a0 l0 =>
          show (match (a0 :: l0)[k]? with
            | some a => ev (gaOf P fuel n) a v S
            | none => .bad) = _
          rw [← el, ea]
      show PE X1 b (tG Z W1 ((match f.lams with | [] => (gaOf P fuel n).lam | _ :: _ => lamsOf (gaOf P fuel n) f.lams) k) (pV Z))
      rw [er]
      exact pe
/-- a def by its body, its code object known -/
theorem FunD.ok2 {w : World} {base : Heap} {x qual : Str} {params : Arguments} {body : List Stmt} {scope : Scope} {dvs : List V} {kws : List (Str × V)} {f : Addr} {fd : FuncData} {CX : CXT} {N ps : List Str} {k : Nat} {sp : Sp} (F : FunD K x qual params body scope dvs kws f fd) (S : FnScope N ps scope) (len : ∀ vs H Q E, sp vs H Q E → vs.length = ps.length)
    (hbody : ∀ (cdv : Value), (∃ oc od fd osl, K.lookup f = some ⟨oc, od, .func fd, osl⟩ ∧ fd.code = cdv) → ∀ (A : Around) (outer : List PySem.Env) (s : Shared) (H : Hp) (vs : List V) (Q : VK) (E : XK), Room k (A.deeper (envOfC qual scope s.heap.objs.size f cdv)) → sp vs H Q E →
      ∃ t, PSs (cxOf CX prog w K mg base N qual scope f cdv A outer s H E) body t ∧ t { nx := fun _ H' => Q .non H', rt := Q } (L2.start N vs) H) : FnOk prog w K mg base CX (k + 1) f fd ps sp := by
  obtain ⟨oc, od, dV, kV, doc, pm, an, cdv, ct, osl, rfl, lk, hcd, _, _⟩ := F.ex
  exact fn_of lk hcd S len fun A outer s H vs Q E hr hsp => hbody cdv ⟨_, _, _, _, lk, rfl⟩ A outer s H vs Q E hr hsp
end
end Mi

set_option Elab.async false
set_option linter.all false
set_option maxRecDepth 100000
set_option maxHeartbeats 8000000
/-! Mi, part 26: every def keeps its promise. -/
namespace Mi
open PySem PySem.Spec PyProof.Rows L2
section
variable {K : PySem.W.Frag} {mg : Str → Option Value} {Z : Ci} {T : Mt} {P : Pg} {adr : Nat → Addr} {fx : Nat → Fx} {ar : Nat → Nat → Bool} {prog : Program} {w : World} {base : Heap} {fuel : Nat}
/-- the slots at the entry -/
theorem start_st0 {N : List Str} {sl : List Sl} {vs : List V} {F H : Hp} {ρ : List Addr} {S : Sto} {B : List Bs} {n : Nat} (hl : sl.length = vs.length) (hn : sl.length + n = N.length) (hs : StoR Z F ρ S H) (hB : Kp B F ρ H)
    (at_ : ∀ (i : Nat) (s : Sl) (x : V), sl[i]? = some s → vs[i]? = some x → SlR Z F ρ H s (some x)) (one : ∀ (i : Nat) (s : Sl), sl[i]? = some s → (∃ d, s = .va d) ∨ (i = 0 ∧ ∃ c fs a, s = .sf c fs ∧ vs[i]? = some (.ref a) ∧ a ∉ ρ ∧ Mine B a ∧ ∀ b ∈ B, b.sf a)) :
    St0 Z B (padU n sl) S F ρ (start N vs) H := by
  rw [padU_eq]
  have cs : ∀ {i : Nat} {s : Sl} {o : Option V}, (sl ++ List.replicate n Sl.un)[i]? = some s → (start N vs)[i]? = some o → s = .un ∨ ∃ x, sl[i]? = some s ∧ vs[i]? = some x ∧ o = some x := by
    intro i s o h1 h2
    by_cases hi : i < sl.length
    · rw [List.getElem?_append_left hi] at h1
      unfold L2.start at h2
      rw [List.getElem?_append_left (by simp; omega), List.getElem?_map] at h2
      cases e : vs[i]? with
      | none => rw [e] at h2; cases h2
      | some x => rw [e] at h2; cases h2; exact .inr ⟨x, h1, rfl, rfl⟩
    · rw [List.getElem?_append_right (by omega), List.getElem?_replicate] at h1
      split at h1
      · cases h1; exact .inl rfl
      · cases h1
  have ow : ∀ {i : Nat} {s : Sl} {o : Option V} {a : Addr}, (sl ++ List.replicate n Sl.un)[i]? = some s → (start N vs)[i]? = some o → Own s o a → i = 0 ∧ a ∉ ρ ∧ Mine B a := by
    intro i s o a h1 h2 w
    rcases cs h1 h2 with rfl | ⟨x, g1, g2, rfl⟩
    · exact w.1.elim
    · rcases one i s g1 with ⟨d, rfl⟩ | ⟨rfl, c, fs, b, rfl, g3, g4, g5, _⟩
      · exact w.1.elim
      · rw [g2] at g3; cases g3
        have := w.2; cases this
        exact ⟨rfl, g4, g5⟩
  refine ⟨⟨?_, fun i s o h1 h2 => ?_, fun i j s t o p a h1 h2 h3 h4 w1 w2 => (ow h1 h2 w1).1.trans (ow h3 h4 w2).1.symm, fun i s o a h1 h2 w => (ow h1 h2 w).2.1⟩, hs, hB, fun i s o a h1 h2 w => (ow h1 h2 w).2.2, fun b hb i c fs a h1 h2 => ?_⟩
  · unfold L2.start
    rw [List.length_append, List.length_replicate, List.length_append, List.length_map, List.length_replicate]; omega
  · rcases cs h1 h2 with rfl | ⟨x, g1, g2, rfl⟩
    · trivial
    · exact at_ i s x g1 g2
  · rcases cs h1 h2 with e | ⟨x, g1, g2, e⟩
    · cases e
    · cases e
      rcases one i _ g1 with ⟨d, q⟩ | ⟨rfl, c', fs', b', q, g3, g4, g5, g6⟩
      · cases q
      · rw [g2] at g3; cases g3; exact g6 b hb
/-- a body's end is the call's -/
theorem fin_fn {r : R Fl} {F H : Hp} {ρ : List Addr} {Q : VK} {E : XK} (h : PostA Z (fun cls dx _ H' => E cls dx H') (r.bind fun r S => (match r with | .rt d => R.ok d S | .nx _ => .ok .non S | _ => .bad)) (pV Z) F ρ [] H Q) :
    PostS Z (fun cls dx _ H' => E cls dx H') [⟨nO, F, ρ, H, fun _ => True⟩] r { nx := fun _ H' => Q .non H', rt := Q } := by
  cases r with
  | bad => exact h
  | ex c fs S => exact fun cls dx σ F' ρ' H' k s x => h cls dx F' ρ' H' (k _ List.mem_cons_self) s x
  | ok a S =>
    cases a with
    | nx v => exact fun σ F' ρ' H' st => h .non F' ρ' H' (st.ext _ List.mem_cons_self) st.sto .non
    | rt d => exact fun x F' ρ' H' k s r => h x F' ρ' H' (k _ List.mem_cons_self) s r
    | bk v => exact h.elim
    | ct v => exact h.elim
theorem fin_in {r : R Fl} {F H : Hp} {ρ : List Addr} {Q : VK} {E : XK} {c n : Nat} {a : Addr} (hn : n = (Z.cn c).length) (h : PostI Z (r.bind fun r S => (match r with | .nx (.sf c' fs :: _) => if c' = c ∧ fs.length = n then R.ok (D.ins c fs) S else .bad | _ => .bad)) c a F ρ H (fun H' => Q .non H') E) :
    PostS Z (fun cls dx _ H' => E cls dx H') [⟨fun b => b = a, F, ρ, H, fun b => b = a⟩] r { nx := fun _ H' => Q .non H', rt := Q } := by
  cases r with
  | bad => exact h
  | ex c fs S => exact fun cls dx σ F' ρ' H' k s x => h cls dx F' ρ' H' (k _ List.mem_cons_self) s x
  | ok b S =>
    cases b with
    | nx v =>
      intro σ F' ρ' H' st
      cases v with
      | nil => exact h.elim
      | cons s v =>
        cases s with
        | sf c' fs =>
          simp only [R.bind] at h
          split at h
          · rename_i hc
            obtain ⟨rfl, hc2⟩ := hc
            obtain ⟨_, h⟩ := h
            have hlen := st.env.len
            cases σ with
            | nil => cases hlen
            | cons o σ =>
              obtain ⟨b, dx, vs, rfl, h1, h2, h3, h4⟩ := st.env.at_ 0 _ _ rfl rfl
              have hb : b = a := st.slf _ List.mem_cons_self 0 _ _ b rfl rfl
              subst hb
              exact h vs dx F' ρ' H' (st.ext _ List.mem_cons_self) st.sto h1 (by rw [← h4.len, hc2, hn]) h3 h4
          · exact h.elim
        | _ => exact h.elim
    | rt d => exact h.elim
    | bk v => exact h.elim
    | ct v => exact h.elim
theorem fns_ok (hL : ∀ c : Fc, LF prog base K mg (Z.at_ c) T P adr fx ar) : ∀ (n : Nat) (c : Fc), FnsOk K mg (Z.at_ c) P adr fx prog w base fuel n
  | 0, c, i, f, hf, fd, hfd => by
    refine ⟨fun vs H Q E h => ?_, fun A outer s H args us vs Q E hr he hb hv hs => ?_⟩
    · unfold spN at h
      cases e : f.ini with
      | none =>
        cases el : f.lams with
        | nil => rw [e, el] at h; obtain ⟨_, F, ρ, S, ds, _, _, q⟩ := h; exact q.elim
        | cons a l => rw [e, el] at h; obtain ⟨_, F, ρ, S, ds, _, _, b, S', q, _⟩ := h; cases q
      | some c => rw [e] at h; obtain ⟨_, a, dx, us, F, ρ, S, ds, _, _, _, _, _, q⟩ := h; exact q.elim
    · exfalso
      unfold spN at hs
      cases e : f.ini with
      | none =>
        cases el : f.lams with
        | nil => rw [e, el] at hs; obtain ⟨_, F, ρ, S, ds, _, _, q⟩ := hs; exact q.elim
        | cons a l => rw [e, el] at hs; obtain ⟨_, F, ρ, S, ds, _, _, b, S', q, _⟩ := hs; cases q
      | some c => rw [e] at hs; obtain ⟨_, a, dx, us, F, ρ, S, ds, _, _, _, _, _, q⟩ := hs; exact q.elim
  | n + 1, c, i, f, hf, fd, hfd => by
    have FF := (hL c).fn i f hf
    refine FunD.ok2 (k := lev n + 7) hfd FF.sc (fun vs H Q E h => ?_) fun cdv hcv A outer s H vs Q E hr hsp => ?_
    · unfold spN at h
      cases e : f.ini with
      | none =>
        cases el : f.lams with
        | nil => rw [e, el] at h; obtain ⟨hl, _⟩ := h; rw [hl, FF.np]
        | cons a l => rw [e, el] at h; obtain ⟨hl, _⟩ := h; rw [hl, FF.np]
      | some c => rw [e] at h; obtain ⟨hl, _⟩ := h; rw [hl, FF.np]
    · have cok : Cok (cxOf (L2.CX prog w) prog w K mg base (fx i).N (fx i).qual (fx i).scope (adr i) cdv A outer s H E) (fx i).m := ⟨rfl, FF.sc.nd, rfl, rfl, rfl, rfl⟩
      have tk : L2.Takes (cxOf (L2.CX prog w) prog w K mg base (fx i).N (fx i).qual (fx i).scope (adr i) cdv A outer s H E) (fun cls d _ H => E cls d H) := takes_of rfl rfl rfl rfl
      have gf : ∀ c1 : Fc, (f.lams ≠ [] → c1 = ⟨(cxOf (L2.CX prog w) prog w K mg base (fx i).N (fx i).qual (fx i).scope (adr i) cdv A outer s H E).env.cells, fun k b s => (T.at_ f (fx i)).lmt k b s = true, (fx i).qual ++ ".<locals>." ++ "<lambda>"⟩) →
          GF (cxOf (L2.CX prog w) prog w K mg base (fx i).N (fx i).qual (fx i).scope (adr i) cdv A outer s H E) (Z.at_ c1) (withL (gaOf P fuel n) f.lams) (T.at_ f (fx i)) := fun c1 h1 => by
        refine gf_of (i := i) (hL c1) (fns_ok hL n c1) hr rfl rfl cok hf (fun hl => ?_) fun hne => ?_
        · obtain ⟨c, Pt, l1, l2, l3, l4⟩ := (hL c1).lam i f hf hl
          obtain ⟨oc, od, fd', osl, lk, rfl⟩ := hcv
          exact ⟨c, Pt, l2, l1 _ _ _ _ lk, l3, l4⟩
        · have e1 := h1 hne
          subst e1
          exact ⟨rfl, rfl, fun k b s => Iff.rfl⟩
      have hpl : (fx i).ps.length ≤ (fx i).N.length := by have := congrArg List.length FF.sc.pre; rw [List.length_take] at this; omega
      unfold spN at hsp
      cases e : f.ini with
      | none =>
        rw [e] at hsp
        have plain : ∀ (c1 : Fc) (hc1 : f.lams ≠ [] → c1 = ⟨(cxOf (L2.CX prog w) prog w K mg base (fx i).N (fx i).qual (fx i).scope (adr i) cdv A outer s H E).env.cells, fun k b s => (T.at_ f (fx i)).lmt k b s = true, (fx i).qual ++ ".<locals>." ++ "<lambda>"⟩)
            (F : Hp) (ρ : List Addr) (S : Sto) (ds : List D), vs.length = f.np → StoR (Z.at_ c1) F ρ S H → Reps (Z.at_ c1) F ρ ds vs → PostA (Z.at_ c1) (fun cls dx _ H' => E cls dx H') (callN P fuel (n + 1) i ds S) (pV (Z.at_ c1)) F ρ [] H Q →
            ∃ t, PSs (cxOf (L2.CX prog w) prog w K mg base (fx i).N (fx i).qual (fx i).scope (adr i) cdv A outer s H E) (fx i).body t ∧ t { nx := fun _ H' => Q .non H', rt := Q } (L2.start (fx i).N vs) H := by
          intro c1 hc1 F ρ S ds hl h1 h2 q
          refine ⟨_, mSs_ok (W := fun cls d _ H => E cls d H) f.body cok (gf c1 hc1) tk (passes_of rfl) FF.body, ?_⟩
          have hdl : ds.length = f.np := by rw [h2.len, hl]
          unfold callN at q
          simp only [hf] at q
          unfold runF at q
          simp only [e, filled_full hdl] at q
          refine ⟨[⟨nO, F, ρ, H, fun _ => True⟩], padU (f.ns - ds.length) (ds.map .va), S, F, ρ, start_st0 (by rw [List.length_map]; exact h2.len) (by rw [List.length_map, FF.ns]; have := FF.np; omega) h1 (fun b hb => ?_) (fun j s x g1 g2 => ?_) (fun j s g1 => ?_), fin_fn q⟩
          · rw [List.mem_singleton.mp hb]; exact .refl
          · rw [List.getElem?_map] at g1
            cases ed : ds[j]? with
            | none => rw [ed] at g1; cases g1
            | some d =>
              rw [ed] at g1; cases g1
              obtain ⟨y, hy, ry⟩ := h2.get ed
              rw [g2] at hy; cases hy
              exact ⟨x, rfl, ry⟩
          · rw [List.getElem?_map] at g1
            cases ed : ds[j]? with
            | none => rw [ed] at g1; cases g1
            | some d => rw [ed] at g1; cases g1; exact .inl ⟨d, rfl⟩
        cases el : f.lams with
        | nil =>
          rw [el] at hsp
          obtain ⟨hl, F, ρ, S, ds, h1, h2, q⟩ := hsp
          exact plain c (fun z => absurd el z) F ρ S ds hl h1 h2 q
        | cons a l =>
          rw [el] at hsp
          obtain ⟨hl, F, ρ, S, ds, h1, h2, b, S', q, hq⟩ := hsp
          refine plain _ (fun _ => rfl) F ρ S ds hl (h1 _) (h2 _) ?_
          rw [q]
          intro x F' ρ' H' ex st rv
          cases rv
          exact hq H'
      | some c2 =>
        rw [e] at hsp
        have hnl : f.lams = [] := by
          cases el : f.lams with
          | nil => rfl
          | cons a l =>
            have := ((hL c).own i f hf (by rw [el]; simp)).ini
            rw [e] at this; cases this
        refine ⟨_, mSs_ok (W := fun cls d _ H => E cls d H) f.body cok (gf c (fun z => absurd hnl z)) tk (passes_of rfl) FF.body, ?_⟩
        obtain ⟨hl, a, dx, us, F, ρ, S, ds, rfl, hH, hFa, h1, h2, q⟩ := hsp
        have hdl : (D.non :: ds).length = f.np := by rw [List.length_cons, h2.len]; exact hl
        have nin : a ∉ ρ := h1.notin hH fun _ z => by cases z
        unfold callN at q
        simp only [hf] at q
        unfold runF at q
        simp only [e, filled_full hdl] at q
        have ecl : (withL (gaOf P fuel n) f.lams).cls = P.cls := by rw [withL_eq]; rfl
        cases ec : P.cls c2 with
        | none =>
          have ec' : (withL (gaOf P fuel n) f.lams).cls c2 = none := by rw [ecl]; exact ec
          change PostI _ (match (withL (gaOf P fuel n) f.lams).cls c2 with | some k => _ | none => _) _ _ _ _ _ _ _ at q
          rw [ec'] at q
          exact q.elim
        | some k =>
          have ec' : (withL (gaOf P fuel n) f.lams).cls c2 = some k := by rw [ecl]; exact ec
          change PostI _ (match (withL (gaOf P fuel n) f.lams).cls c2 with | some k => _ | none => _) _ _ _ _ _ _ _ at q
          rw [ec'] at q
          have hcn : k.at_.length = ((Z.at_ c).cn c2).length := by rw [((hL c).fld c2 k ec).1, List.length_map]
          refine ⟨[⟨fun b => b = a, F, ρ, H, fun b => b = a⟩], padU (f.ns - (ds.length + 1)) (.sf c2 [] :: ds.map .va), S, F, ρ, start_st0 (by simp [h2.len]) (by simp; have := FF.ns; have := FF.np; simp at hdl; omega) h1 (fun b hb => ?_) (fun j s x g1 g2 => ?_) (fun j s g1 => ?_), fin_in hcn q⟩
          · rw [List.mem_singleton.mp hb]; exact .refl
          · cases j with
            | zero => cases g1; cases g2; exact ⟨a, dx, [], rfl, by simpa using hH, Nat.zero_le _, hFa, .nil⟩
            | succ j =>
              simp only [List.getElem?_cons_succ] at g1 g2
              rw [List.getElem?_map] at g1
              cases ed : ds[j]? with
              | none => rw [ed] at g1; cases g1
              | some d =>
                rw [ed] at g1; cases g1
                obtain ⟨y, hy, ry⟩ := h2.get ed
                rw [g2] at hy; cases hy
                exact ⟨x, rfl, ry⟩
          · cases j with
            | zero =>
              cases g1
              refine .inr ⟨rfl, c2, [], a, rfl, rfl, nin, fun b hb => ?_, fun b hb => ?_⟩
              · rw [List.mem_singleton.mp hb]; exact .inl rfl
              · rw [List.mem_singleton.mp hb]
            | succ j =>
              simp only [List.getElem?_cons_succ] at g1
              rw [List.getElem?_map] at g1
              cases ed : ds[j]? with
              | none => rw [ed] at g1; cases g1
              | some d => rw [ed] at g1; cases g1; exact .inl ⟨d, rfl⟩
end
end Mi

set_option Elab.async false
set_option linter.all false
set_option maxRecDepth 100000
set_option maxHeartbeats 1000000
/-! Mi, part 36: exceptions and complaint defs of a text, by tests. -/
namespace Mi
open PySem PySem.Spec PyProof.Rows L2
/-! ### an exception class -/
def oexB (K : PySem.W.Frag) (C : Addr) : Bool := (match K.lookup C with
  | some ⟨.type "type", _, .cls cd, sl⟩ => (match cd.mro, sl.toList with
    | .ref C' :: bm, [_, _, _, _, some (.builtin n), _] => C' == C && n == "ValueError.__new__" && !cd.hasDel && cd.hasDict && PySem.HandSPX.refsVE bm
    | _, _ => false)
  | _ => false) && He.eqO (PySem.W.findIn K (.ref C) "__setattr__") (some (some (.builtin "object.__setattr__"))) && decide (PySem.W.subIn K (.ref C) (.type "BaseException") = some true) && decide (PySem.W.typeIn K (.ref C) = some (.type "type")) && PySem.W.keepIn K (.ref C)
theorem oexB_ok {K : PySem.W.Frag} {C : Addr} (h : oexB K C = true) : OexC K C := by
  simp only [oexB, Bool.and_eq_true, decide_eq_true_eq] at h
  obtain ⟨⟨⟨⟨q, h1⟩, h2⟩, h3⟩, h4⟩ := h
  refine ⟨?_, He.eqO_ok h1, h2, h3, h4⟩
  split at q
  · rename_i dd cd sl ho
    split at q
    · rename_i C' bm a0 a1 a2 a3 n a5 hmro hsl
      simp only [Bool.and_eq_true, beq_iff_eq, Bool.not_eq_true'] at q
      obtain ⟨⟨⟨⟨rfl, rfl⟩, hd⟩, hdc⟩, hr⟩ := q
      obtain ⟨n1, n2, n3, n4, n5, n6, n7, n8, n9, n10, n11⟩ := cd
      obtain ⟨sl⟩ := sl
      simp only at hmro hd hdc hsl
      subst hmro hd hdc hsl
      exact ⟨_, _, _, _, _, _, _, _, _, _, _, _, _, _, _, ho, hr⟩
    · cases q
  · cases q
/-- its __init__ -/
structure Ii where
  x : Str
  name : Str
  qual : Str
  params : Arguments
  body : List Stmt
  scope : Scope
abbrev FnI : Type := Option (Str × Str × Arguments × FuncBody × Scope × Addr × List Str × Value × Addr)
def iObs (K : PySem.W.Frag) (x : Str) : FnI := match K.lookup (He.fAd K (x, some "__init__")) with
  | some ⟨_, _, .func fd, _⟩ => some (fd.name, fd.qualname, fd.params, fd.body, fd.scope, fd.globals, fd.closure.map (·.1), fd.defaults, fd.builtins)
  | _ => none
def Ii.val (d : Ii) : FnI := some (d.name, d.qual, d.params, .stmts d.body, d.scope, mainGlobals, ["__class__"], .none, builtinsNs)
def namesB : List Expr → List Str → Bool
  | [], [] => true
  | e :: es, x :: xs => (match e with
    | .Name y _ => decide (y = x)
    | _ => false) && namesB es xs
  | _, _ => false
theorem namesB_ok : ∀ {es : List Expr} {xs : List Str}, namesB es xs = true → NamesAre es xs
  | [], [], _ => .nil
  | e :: es, x :: xs, h => by
    simp only [namesB, Bool.and_eq_true] at h
    obtain ⟨h1, h2⟩ := h
    split at h1
    · have := of_decide_eq_true h1; subst this; exact .cons (namesB_ok h2)
    · cases h1
  | [], _ :: _, h => by cases h
  | _ :: _, [], h => by cases h
def storesB : List Stmt → List Str → Bool
  | [], [] => true
  | s :: ss, x :: xs => (match s with
    | .Assign [.Attribute (.Name z _) y _] (.Name w _) _ => decide (z = "self") && decide (y = x) && decide (w = x)
    | _ => false) && storesB ss xs
  | _, _ => false
theorem storesB_ok : ∀ {ss : List Stmt} {xs : List Str}, storesB ss xs = true → StoresAre ss xs
  | [], [], _ => .nil
  | s :: ss, x :: xs, h => by
    simp only [storesB, Bool.and_eq_true] at h
    obtain ⟨h1, h2⟩ := h
    split at h1
    · simp only [Bool.and_eq_true, decide_eq_true_eq] at h1
      obtain ⟨⟨rfl, rfl⟩, rfl⟩ := h1
      exact .cons (storesB_ok h2)
    · cases h1
  | [], _ :: _, h => by cases h
  | _ :: _, [], h => by cases h
def lkLoc (sc : Scope) (x : Str) : Bool := match sc.names.lookup x with
  | some .local => true
  | _ => false
def lkGlo (sc : Scope) (x : Str) : Bool := match sc.names.lookup x with
  | some .globalImplicit => true
  | _ => false
def lkFree (sc : Scope) (x : Str) : Bool := match sc.names.lookup x with
  | some .free => true
  | _ => false
theorem lkLoc_ok {sc : Scope} {x : Str} (h : lkLoc sc x = true) : sc.names.lookup x = some .local := by
  unfold lkLoc at h; split at h
  · assumption
  · cases h
theorem lkGlo_ok {sc : Scope} {x : Str} (h : lkGlo sc x = true) : sc.names.lookup x = some .globalImplicit := by
  unfold lkGlo at h; split at h
  · assumption
  · cases h
theorem lkFree_ok {sc : Scope} {x : Str} (h : lkFree sc x = true) : sc.names.lookup x = some .free := by
  unfold lkFree at h; split at h
  · assumption
  · cases h
/-- its text -/
def iniB (d : Ii) (xs : List Str) : Bool := (match d.body with
  | .Expr (.Call (.Attribute (.Call (.Name s _) [] [] _) y p2) (e :: es) [] p3) _ :: sts => decide (s = "super") && decide (y = "__init__") && namesB (e :: es) xs && storesB sts xs && (p2.endLine == p3.line)
  | _ => false) && (match (d.params.posonlyargs ++ d.params.args).head? with
  | some ar => decide (ar.arg = ("self" : Str))
  | none => false) && lkGlo d.scope "super" && lkFree d.scope "__class__" && lkLoc d.scope "self" && (xs.all fun x => lkLoc d.scope x) && decide (d.scope.kind = .function) && !d.scope.isCoroutine && !d.scope.isGenerator && (d.scope.names.all fun y => !decide (y.2 = .cell)) &&
  decide (("self" : Str) :: xs).Nodup && (xs.all fun x => !(x == ("__debug__" : Str))) && decide (xs.length ≤ 28)
/-- what the written part says of it -/
def iniK (K : PySem.W.Frag) (file : Str) (C : Addr) (d : Ii) (xs : List Str) : Bool :=
  let fI := He.fAd K (d.x, some "__init__")
  oexB K C && He.eqO (PySem.W.findIn K (.ref C) "__init__") (some (some (.ref fI))) && decide (PySem.W.typeIn K (.ref fI) = some (.type "function")) && (match K.lookup fI with
    | some ⟨_, _, .func fd, _⟩ => (match fd.code, fd.closure with
      | .ref cda, [(_, cc)] => PySem.W.codeIn K (.ref cda) d.qual && (match K.lookup cda with
        | some ⟨_, _, .fields vs, _⟩ => (match (vs[2]? : Option Value) with
          | some (Value.str f _) => file == f
          | _ => false)
        | _ => false) && (match K.lookup cc with
        | some ⟨_, _, .cell (some (.ref C')), _⟩ => C' == C
        | _ => false)
      | _, _ => false)
    | _ => false) && He.eqO (PySem.W.nsIn K mainGlobals "super") (some none) && He.eqO (PySem.W.nsIn K cStatics "thirdparty.any") (some none) && decide (PySem.W.mroIn K C (.ref C) = some true) && He.eqO (PySem.W.ks_superIn K C C "__init__") (some (some (.builtin "ValueError.__init__"))) &&
  decide (PySem.W.subIn K (.ref C) (.type "ValueError") = some true) && PySem.W.excInitIn K C [.type "ValueError", .type "Exception", .type "BaseException", .type "object"] "ValueError.__new__" && xs.all fun x => He.eqO (PySem.W.findIn K (.ref C) x) (some none)
theorem xiF_of {P : Program} {K : PySem.W.Frag} {file : Str} {C : Addr} {d : Ii} {xs : List Str} (hf : P.main.file = file) (ht : (P.main.scope.names.lookup ("super" : Str)).isSome = false) (ho : iObs K d.x = d.val) (hb : iniB d xs = true) (hk : iniK K file C d xs = true)
    (hbd : ∀ (kV doc pm : Value) (an : Option Addr) (cdv ct : Value) (cc : Addr) (us : List Value), us.length = xs.length + 1 → bindArgs (PySem.W.ksFn d.name d.qual d.params d.body d.scope .none kV doc pm an cdv ct cc) ⟨us, []⟩ = pure ((("self" : Str) :: xs).zip us)) :
    XiF P K C (He.fAd K (d.x, some "__init__")) xs ∧ PySem.W.findIn K (.ref C) "__init__" = some (some (.ref (He.fAd K (d.x, some "__init__")))) ∧ PySem.W.typeIn K (.ref (He.fAd K (d.x, some "__init__"))) = some (.type "function") := by
  simp only [iniB, Bool.and_eq_true, decide_eq_true_eq, Bool.not_eq_true', List.all_eq_true, decide_eq_false_iff_not] at hb
  obtain ⟨⟨⟨⟨⟨⟨⟨⟨⟨⟨⟨⟨b1, b2⟩, b3⟩, b4⟩, b5⟩, b6⟩, b7⟩, b8⟩, b9⟩, b10⟩, b11⟩, b12⟩, b13⟩ := hb
  simp only [iniK, Bool.and_eq_true, decide_eq_true_eq, List.all_eq_true] at hk
  obtain ⟨⟨⟨⟨⟨⟨⟨⟨⟨⟨k1, k2⟩, k3⟩, k4⟩, k5⟩, k6⟩, k7⟩, k8⟩, k9⟩, k10⟩, k11⟩ := hk
  refine ⟨⟨oexB_ok k1, ?_, b11, fun x hx => by simpa using b12 x hx, ht, He.eqO_ok k5, He.eqO_ok k6, k7, He.eqO_ok k8, k9, k10, fun x hx => He.eqO_ok (k11 x hx), b13⟩, He.eqO_ok k2, k3⟩
  split at k4
  · rename_i oc od fd osl lk
    split at k4
    · rename_i cda z cc hcode hclo
      simp only [Bool.and_eq_true] at k4
      obtain ⟨⟨c1, c2⟩, c3⟩ := k4
      unfold iObs Ii.val at ho
      rw [lk] at ho
      obtain ⟨n1, n2, n3, n4, n5, n6, n7, n8, n9, n10, n11, n12, n13, n14, n15⟩ := fd
      simp only at hcode hclo
      subst hcode hclo
      simp only [Option.some.injEq, Prod.mk.injEq, List.map_cons, List.map_nil, List.cons.injEq, and_true] at ho
      obtain ⟨rfl, rfl, rfl, rfl, rfl, rfl, rfl, rfl, rfl⟩ := ho
      split at b1
      · rename_i s p0 p1 y p2 e es p3 p4 sts hbody
        simp only [Bool.and_eq_true, decide_eq_true_eq] at b1
        obtain ⟨⟨⟨⟨rfl, rfl⟩, b14⟩, b15⟩, b16⟩ := b1
        split at c2
        · rename_i ccl cdd vs ccs hcda
          split at c2
          · rename_i f tf hvs
            split at c3
            · rename_i cl cld C' csl hcc
              obtain rfl := beq_iff_eq.mp c3
              split at b2
              · rename_i ar har
                refine ⟨_, _, _, _, _, _, _, _, _, _, _, _, _, cda, cc, sts, e, es, p0, p1, p2, p3, p4, by rw [← hbody]; exact lk, c1, namesB_ok b14, storesB_ok b15, b16, ⟨ar, har, of_decide_eq_true b2⟩, fun s u us hu => ?_, ⟨_, _, vs, _, f, tf, hcda, hvs, by rw [hf]; exact c2⟩, ⟨_, _, _, hcc⟩, lkGlo_ok b3, lkFree_ok b4, lkLoc_ok b5, fun x hx => lkLoc_ok (b6 x hx), b7, b8, b9, b10⟩
                rw [← hbody]
                exact BindsTo.of_eq (hbd _ _ _ _ _ _ _ (u :: us) (by simp [hu]))
              · cases b2
            · cases c3
          · cases c2
        · cases c2
      · cases b1
    · cases k4
  · cases k4
/-! ### a complaint def -/
/-- a complaint def of the table -/
structure Dk where
  d : He.DefD
  co : Co
  N : List Str
  a : Str
def itB (anm : Nat → Str) (n : Option Str) (e : Expr) (h : Hi) : Bool := match h with
  | .str s => (match e with
    | .Constant (.str x) _ _ => decide (x = toS s)
    | _ => false)
  | .fld f => (match e with
    | .Attribute (.Name z _) y _ => decide (n = some z) && decide (y = anm f)
    | _ => false)
  | .rep f => (match e with
    | .Call (.Name r _) [.Attribute (.Name z _) y _] [] _ => decide (r = "repr") && decide (n = some z) && decide (y = anm f)
    | _ => false)
theorem itB_ok {anm : Nat → Str} {n : Option Str} {e : Expr} {h : Hi} (q : itB anm n e h = true) : ItIs n e (itOf anm h) := by
  cases h with
  | str s =>
    simp only [itB] at q; split at q
    · have := of_decide_eq_true q; subst this; exact .str
    · cases q
  | fld f =>
    simp only [itB] at q; split at q
    · simp only [Bool.and_eq_true, decide_eq_true_eq] at q
      obtain ⟨rfl, rfl⟩ := q; exact .fld
    · cases q
  | rep f =>
    simp only [itB] at q; split at q
    · simp only [Bool.and_eq_true, decide_eq_true_eq] at q
      obtain ⟨⟨rfl, rfl⟩, rfl⟩ := q; exact .rep
    · cases q
def itsB (anm : Nat → Str) (n : Option Str) : List Expr → List Hi → Bool
  | [], [] => true
  | e :: es, h :: hs => itB anm n e h && itsB anm n es hs
  | _, _ => false
theorem itsB_ok {anm : Nat → Str} {n : Option Str} : ∀ {es : List Expr} {hs : List Hi}, itsB anm n es hs = true → ItsIs n es (hs.map (itOf anm))
  | [], [], _ => .nil
  | e :: es, h :: hs, q => by
    simp only [itsB, Bool.and_eq_true] at q
    exact .cons (itB_ok q.1) (itsB_ok q.2)
  | [], _ :: _, h => by cases h
  | _ :: _, [], h => by cases h
/-- the clauses; xnm: the classes' names -/
def hsB (xnm : Nat → Option Str) (anm : Nat → Str) (N : List Str) (sc : Scope) : List ExceptHandler → List (Nat × List Hi) → Bool
  | [], [] => true
  | h :: hds, (k, his) :: r => (match h with
    | .ExceptHandler (some (.Name x _)) n [.Return (some (.Tuple es _ _)) _] _ => decide (xnm k = some x) && lkGlo sc x && !(x == ("__debug__" : Str)) && (match n with
      | none => true
      | some n => decide (n ∈ N) && lkLoc sc n && !(n == ("__debug__" : Str)) && !(n == ("__classdict__" : Str))) && itsB anm n es his
    | _ => false) && hsB xnm anm N sc hds r
  | _, _ => false
theorem hsB_ok {xnm : Nat → Option Str} {anm : Nat → Str} {N : List Str} {sc : Scope} {Z : Ci} {mg : Str → Option Value} (hx : ∀ k x, xnm k = some x → mg x = some (.ref (Z.xa k))) : ∀ {hds : List ExceptHandler} {r : List (Nat × List Hi)}, hsB xnm anm N sc hds r = true → ∃ l, HsOk mg N sc hds l ∧ HmsIs Z anm r l
  | [], [], _ => ⟨[], .nil, .nil⟩
  | h :: hds, (k, his) :: r, q => by
    simp only [hsB, Bool.and_eq_true] at q
    obtain ⟨q1, q2⟩ := q
    obtain ⟨l, l1, l2⟩ := hsB_ok hx q2
    split at q1
    · rename_i x p1 n es jj p2 p3 p4
      simp only [Bool.and_eq_true, decide_eq_true_eq, Bool.not_eq_true'] at q1
      obtain ⟨⟨⟨⟨q3, q4⟩, q5⟩, q6⟩, q7⟩ := q1
      match n, q6, q7 with
      | none, _, q7 => exact ⟨⟨x, Z.xa k, none, none, his.map (itOf anm)⟩ :: l, .cons (h := ⟨x, Z.xa k, none, none, his.map (itOf anm)⟩) (lkGlo_ok q4) q5 (hx k x q3) trivial (itsB_ok q7) l1, .cons rfl rfl l2⟩
      | some n, q6, q7 =>
        simp only [Bool.and_eq_true, decide_eq_true_eq, Bool.not_eq_true'] at q6
        obtain ⟨⟨⟨q8, q9⟩, q10⟩, q11⟩ := q6
        obtain ⟨j, hj⟩ := List.mem_iff_getElem?.mp q8
        exact ⟨⟨x, Z.xa k, some n, some j, his.map (itOf anm)⟩ :: l, .cons (h := ⟨x, Z.xa k, some n, some j, his.map (itOf anm)⟩) (lkGlo_ok q4) q5 (hx k x q3) ⟨hj, lkLoc_ok q9, q10, q11⟩ (itsB_ok q7) l1, .cons rfl rfl l2⟩
    · cases q1
  | [], _ :: _, h => by cases h
  | _ :: _, [], h => by cases h
def restB : List Stmt → Bool
  | [] => true
  | [.Return (some (.Constant .none _ _)) _] => true
  | _ => false
theorem restB_ok {l : List Stmt} (h : restB l = true) : RestIs l := by
  unfold restB at h
  split at h
  · exact .nil
  · exact .ret
  · cases h
def scB0 (N P : List Str) (sc : Scope) : Bool := (match sc.kind with
  | .function => true
  | _ => false) && !sc.isCoroutine && !sc.isGenerator && decide N.Nodup && decide (N.take P.length = P) && (P.all fun x => match sc.names.lookup x with
  | some .local => true
  | some .cell => true
  | _ => false) && sc.names.all fun y => match y.2 with
  | .free => false
  | _ => true
theorem scB0_ok {N P : List Str} {sc : Scope} (h : scB0 N P sc = true) : FnScope N P sc := by
  simp only [scB0, Bool.and_eq_true, decide_eq_true_eq, Bool.not_eq_true', List.all_eq_true] at h
  obtain ⟨⟨⟨⟨⟨⟨h1, h2⟩, h3⟩, h4⟩, h5⟩, h6⟩, h7⟩ := h
  refine ⟨?_, h2, h3, h4, h5, fun x hx => ?_, fun y hy e => ?_⟩
  · split at h1
    · assumption
    · cases h1
  · have q := h6 x hx
    split at q
    · rename_i e; exact .inl e
    · rename_i e; exact .inr e
    · cases q
  · have q := h7 y hy
    rw [e] at q; cases q
def coB (xnm : Nat → Option Str) (anm : Nat → Str) (k : Dk) : Bool := (match k.d.body with
  | .Try [.Return (some (.Tuple [.Constant (.str tg) _ _, .Call (.Name a _) [] [] _] _ _)) _] (hd :: hds) [] [] _ :: rest => decide (tg = toS k.co.tag) && decide (a = k.a) && hsB xnm anm k.N k.d.scope (hd :: hds) k.co.hs && restB rest
  | _ => false) && scB0 k.N [k.a] k.d.scope && decide (k.N[0]? = some k.a) && lkLoc k.d.scope k.a && lkGlo k.d.scope "repr" && dbg k.a && decide (k.d.qual = k.d.name) && decide (k.d.at_ = (k.d.name, none)) && k.d.dfl.isEmpty
theorem coF_of {K : PySem.W.Frag} {mg : Str → Option Value} {Z : Ci} {G : Ga} {xnm : Nat → Option Str} {anm : Nat → Str} {g : Nat} {k : Dk} {fd : FuncData} {ga : Addr} {kws : List (Str × V)} (h : coB xnm anm k = true) (F : FunD K k.d.name k.d.qual k.d.params k.d.body k.d.scope [] kws ga fd) (hm : mg k.d.name = some (.ref ga)) (hC : G.co g = some k.co)
    (hx : ∀ k x, xnm k = some x → mg x = some (.ref (Z.xa k))) (hone : ∀ c fs, G.xat c = some fs → ∀ f, ∀ g ∈ fs, anm g = anm f → g = f)
    (hbd : ∀ (kV doc pm : Value) (an : Option Addr) (cdv ct : Value) (us : List Value), us.length = 1 → bindArgs (PySem.W.fnOf k.d.name k.d.qual k.d.params k.d.body k.d.scope .none kV doc pm an cdv ct) ⟨us, []⟩ = pure ([k.a].zip us)) :
    CoF K mg Z G anm g k.d.name := by
  simp only [coB, Bool.and_eq_true, decide_eq_true_eq] at h
  obtain ⟨⟨⟨⟨⟨⟨⟨⟨h1, h2⟩, h3⟩, h4⟩, h5⟩, h6⟩, h7⟩, h8⟩, _⟩ := h
  obtain ⟨oc, od, dV, kV, doc, pm, an, cdv, ct, osl, rfl, lk, hcd, hdv, _⟩ := F.ex
  have hdv : dV = .none := hdv.elim (fun z => z.2) fun z => absurd rfl z.1
  subst hdv
  rw [h7] at lk hcd hbd
  split at h1
  · rename_i tg j1 p1 a p2 p3 j2 p4 p5 hd hds p6 rest hbody
    simp only [Bool.and_eq_true, decide_eq_true_eq] at h1
    obtain ⟨⟨⟨rfl, rfl⟩, h9⟩, h10⟩ := h1
    obtain ⟨l, l1, l2⟩ := hsB_ok hx h9
    rw [hbody] at lk hbd
    have S := scB0_ok h2
    exact ⟨_, ga, oc, od, osl, _, _, .none, kV, doc, pm, cdv, ct, an, k.a, k.N, hd, hds, rest, l, j1, j2, p1, p2, p3, p4, p5, p6, hC, hm, F.kp, lk, hcd, .all fun us hu => hbd _ _ _ _ _ _ us hu, S, h3, .inl (lkLoc_ok h4), S.nd, lkGlo_ok h5, l1, restB_ok h10, l2, (dbg_ok h6).1, (dbg_ok h6).2, fun c fs hc _ _ _ _ f _ g hg e => hone c fs hc f g hg e⟩
  · cases h1
end Mi

/-! Mi, part 37: repr of a leaf, without the model. -/
namespace Mi
/-- a text whose repr is the text in single quotes -/
def plainC (c : Nat) : Bool := decide (32 ≤ c) && decide (c ≤ 126) && !(c == 39) && !(c == 92)
def rprP : D → Option (List Nat)
  | .non => some [78, 111, 110, 101]
  | .bl b => some (if b then [84, 114, 117, 101] else [70, 97, 108, 115, 101])
  | .int i => if i.natAbs.log2 < 1920 then some ((toString i).toList.map (·.toNat)) else none
  | .str s => if (s.all plainC && decide (s.length ≤ 1000)) = true then some (39 :: (s ++ [39])) else none
  | _ => none
end Mi

set_option Elab.async false
set_option linter.all false
set_option maxRecDepth 100000
set_option maxHeartbeats 8000000
/-! Mi, part 27: a law's text as a table; its facts by one test. -/
namespace Mi
open PySem PySem.Spec PyProof.Rows L2
/-- a def of the table -/
structure Dd where
  d : He.DefD
  f : Fd
  N : List Str
  ps : List Str
  ars : List Nat
  glob : Bool
/-- a class of the table -/
structure Dc where
  name : Str
  cl : Cl
  cars : List Nat
/-- an exception class of the table: its fields (when it is raised or told of), its __init__ (when it is raised) -/
structure Dx where
  name : Str
  fs : Option (List Nat)
  ini : Option Ii
structure Ld where
  defs : List Dd
  clss : List Dc
  cons : List (Str × D)
  atts : List Str
  mths : List (Str × List Nat)
  gcd : Bool
  excs : List Dx := []
  subs : List (List Bool) := []
  cos : List Dk := []
  lams : List Nat := []
  file : Str := ""
def ixE (L : Ld) (k : Nat) : Nat := if k < L.excs.length then k else 0
def xsOf (L : Ld) (c k : Nat) : Bool := (((L.subs[c]?).getD [])[ixE L k]?).getD false
def pgOf (L : Ld) : Pg := ⟨fun i => (L.defs[i]?).map (·.f), fun c => (L.clss[c]?).map (·.cl), fun k => (L.cons[k]?).map (·.2), fun g => (L.cos[g]?).map (·.co), fun c => (L.excs[c]?).bind (·.fs), xsOf L, rprP⟩
def mtOf (L : Ld) : Mt where
  fnm := fun i => (L.defs[i]?).bind fun d => if d.glob = true then some d.d.at_.1 else none
  far := fun i k => (L.defs[i]?).any fun d => d.glob && d.ars.contains k
  cnm := fun c => (L.clss[c]?).map (·.name)
  car := fun c k => (L.clss[c]?).any fun d => d.cars.contains k
  mnm := fun i => (L.mths[i]?).map (·.1)
  mar := fun i k => (L.mths[i]?).any fun m => m.2.contains k
  anm := fun f => (L.atts[f]?).getD "?"
  na := L.atts.length
  knm := fun k => (L.cons[k]?).map (·.1)
  gcd := L.gcd
  gnm := fun g => (L.cos[g]?).map (·.d.name)
  xnm := fun c => (L.excs[c]?).bind fun d => if d.ini.isSome = true then some d.name else none
  lam := fun q => L.lams.any fun i => (L.defs[i]?).any fun d => decide (q = d.d.qual ++ ".<locals>.")
def xnmOf (L : Ld) (c : Nat) : Option Str := (L.excs[c]?).map (·.name)
def arOf (L : Ld) (i k : Nat) : Bool := (L.defs[i]?).any fun d => d.ars.contains k
def adrOf (L : Ld) (K : PySem.W.Frag) (i : Nat) : Addr := match L.defs[i]? with
  | some d => He.fAd K d.d.at_
  | none => 0
def caOf (L : Ld) (K : PySem.W.Frag) (c : Nat) : Addr := match L.clss[c]? with
  | some d => He.ga K d.name
  | none => 0
def cnOf (L : Ld) (c : Nat) : List Str := match L.clss[c]? with
  | some d => d.cl.at_.map (mtOf L).anm
  | none => []
def xaOf (L : Ld) (K : PySem.W.Frag) (c : Nat) : Addr := match L.excs[ixE L c]? with
  | some d => He.ga K d.name
  | none => 0
def xnOf (L : Ld) (c : Nat) : List Str := match L.excs[c]? with
  | some d => (d.fs.getD []).map (mtOf L).anm
  | none => []
def tbOf (L : Ld) (K : PySem.W.Frag) : List (Addr × Str) := L.lams.filterMap fun i => (L.defs[i]?).map fun d => ((He.cT K d.d.at_).2, d.d.qual ++ ".<locals>." ++ "<lambda>")
def tfOf (L : Ld) : List He.Defn := L.lams.filterMap fun i => (L.defs[i]?).map fun d => d.d.at_
def iniOf (L : Ld) : List Ii := L.excs.filterMap (·.ini)
def dfsOf (L : Ld) : List He.DefD := L.defs.map (·.d) ++ L.cos.map (·.d)
def ziOf (L : Ld) (K : PySem.W.Frag) : Ci := { K := K, ca := caOf L K, cn := cnOf L, xa := xaOf L K, xn := xnOf L, tb := tbOf L K }
def fxS (d : Dd) : Fx := ⟨d.d.name, d.d.qual, d.d.params, d.d.body, d.d.scope, d.N, d.ps, []⟩
def fxD (K : PySem.W.Frag) (d : Dd) : Fx := ⟨d.d.name, d.d.qual, d.d.params, d.d.body, d.d.scope, d.N, d.ps, d.d.dvs K⟩
def fxOf (L : Ld) (K : PySem.W.Frag) (i : Nat) : Fx := match L.defs[i]? with
  | some d => fxD K d
  | none => ⟨"", "", default, [], default, [], [], []⟩
def allIx {α : Type} (p : Nat → α → Bool) : Nat → List α → Bool
  | _, [] => true
  | i, a :: l => p i a && allIx p (i + 1) l
theorem allIx_ok {α : Type} {p : Nat → α → Bool} : ∀ {l : List α} {i j : Nat} {a : α}, allIx p i l = true → l[j]? = some a → p (i + j) a = true
  | [], i, j, a, _, h => by simp at h
  | b :: l, i, 0, a, h, e => by
    simp only [allIx, Bool.and_eq_true] at h
    simp at e; subst e
    exact h.1
  | b :: l, i, j + 1, a, h, e => by
    simp only [allIx, Bool.and_eq_true] at h
    have := allIx_ok (j := j) h.2 (by simpa using e)
    rwa [Nat.add_assoc, Nat.add_comm 1 j] at this
theorem allIx0 {α : Type} {p : Nat → α → Bool} {l : List α} {j : Nat} {a : α} (h : allIx p 0 l = true) (e : l[j]? = some a) : p j a = true := by
  have := allIx_ok h e
  rwa [Nat.zero_add] at this
def allBi : List Bi := [.add, .sub, .mul, .fdiv, .mod, .pow, .band, .bor, .bxor, .shl, .shr]
theorem mem_allBi (o : Bi) : o ∈ allBi := by cases o <;> simp [allBi]
/-! ### what stands in the text -/
def scB (N P : List Str) (sc : Scope) : Bool := (match sc.kind with
  | .function => true
  | _ => false) && !sc.isCoroutine && !sc.isGenerator && decide N.Nodup && decide (N.take P.length = P) && (P.all fun x => match sc.names.lookup x with
  | some .local => true
  | some .cell => true
  | _ => false) && sc.names.all fun y => match y.2 with
  | .free => false
  | _ => true
theorem scB_ok {N P : List Str} {sc : Scope} (h : scB N P sc = true) : FnScope N P sc := by
  simp only [scB, Bool.and_eq_true, decide_eq_true_eq, Bool.not_eq_true', List.all_eq_true] at h
  obtain ⟨⟨⟨⟨⟨⟨h1, h2⟩, h3⟩, h4⟩, h5⟩, h6⟩, h7⟩ := h
  refine ⟨?_, h2, h3, h4, h5, fun x hx => ?_, fun y hy e => ?_⟩
  · split at h1
    · assumption
    · cases h1
  · have q := h6 x hx
    split at q
    · rename_i e; exact .inl e
    · rename_i e; exact .inr e
    · cases q
  · have q := h7 y hy
    rw [e] at q; cases q
/-- a def that a call can meet: no __init__, k arguments -/
def okD (L : Ld) (f k : Nat) : Bool := (L.defs[f]?).any fun d => d.f.ini.isNone && d.ars.contains k
theorem okD_ok {L : Ld} {f k : Nat} (h : okD L f k = true) : ∃ d, (pgOf L).fns f = some d ∧ d.ini = none ∧ arOf L f k = true := by
  unfold okD at h
  cases e : L.defs[f]? with
  | none => rw [e] at h; cases h
  | some d =>
    rw [e] at h
    simp only [Option.any_some, Bool.and_eq_true] at h
    refine ⟨d.f, by show (L.defs[f]?).map _ = _; rw [e]; rfl, Option.isNone_iff_eq_none.mp h.1, ?_⟩
    unfold arOf
    rw [e]
    exact h.2
def stD (L : Ld) (d : Dd) : Bool := scB d.N d.ps d.d.scope && decide (d.f.np = d.ps.length) && decide (d.f.ns = d.N.length) && mSs ((mtOf L).at_ d.f (fxS d)) (fxS d).m d.f.body d.d.body && d.d.kwd.isEmpty &&
  (!d.glob || (d.f.ini.isNone && d.d.at_.2.isNone)) && (match d.f.ini with
    | none => true
    | some _ => !d.ps.isEmpty)
def stC (L : Ld) (c : Nat) (d : Dc) : Bool := decide d.cl.at_.Nodup && d.cl.at_.all (fun f => decide (f < L.atts.length)) && (d.cars.isEmpty || (L.defs[d.cl.init]?).any fun e => decide (e.f.ini = some c) && d.cars.all fun k => e.ars.contains (k + 1)) &&
  (allBi.all fun o => (match d.cl.op o with
    | some f => okD L f 2
    | none => true) && (match d.cl.rop o with
    | some f => okD L f 2 && (match o with
      | .add => true
      | .sub => true
      | .mul => true
      | _ => false)
    | none => true)) && (match d.cl.neg with
    | some f => okD L f 1
    | none => true) && allIx (fun i m => match d.cl.mth i with
    | some f => m.2.all fun k => okD L f (k + 1)
    | none => true) 0 L.mths
def stX (L : Ld) (c : Nat) (d : Dx) : Bool := (match d.fs with
  | some fs => fs.all fun f => decide (f < L.atts.length)
  | none => true) && (match d.ini with
  | some i => decide (i.x = d.name) && iniB i (xnOf L c) && d.fs.isSome && !(xnOf L c).isEmpty
  | none => true)
/-- a class's ==; a def with lambdas of its own -/
def stQ (L : Ld) (c : Nat) (d : Dc) : Bool := match d.cl.eq with
  | some f => okD L f 2 && (L.defs[f]?).any fun e => decide (e.f.np = 2)
  | none => true
def stW (L : Ld) (i : Nat) (d : Dd) : Bool := d.f.lams.isEmpty || (d.f.ini.isNone && d.ars.isEmpty && (mtOf L).lam (d.d.qual ++ ".<locals>.") && !(mtOf L).lam (d.d.qual ++ ".<locals>." ++ "<lambda>" ++ ".<locals>."))
def stE (L : Ld) : Bool := allIx (stX L) 0 L.excs && L.cos.all (coB (xnmOf L) (mtOf L).anm) && allIx (fun i (d : Dd) => !(mtOf L).lam (d.d.qual ++ ".<locals>.") || L.lams.contains i) 0 L.defs && decide (("?" : Str) ∉ L.atts) && allIx (stQ L) 0 L.clss && allIx (stW L) 0 L.defs
def stM (L : Ld) : Bool := L.defs.all (stD L) && allIx (stC L) 0 L.clss && decide L.atts.Nodup && allIx (fun i (m : Str × List Nat) => L.clss.any fun d => (d.cl.mth i).isSome) 0 L.mths
def stL (L : Ld) : Bool := stE L && stM L
/-! ### what K tells -/
def eqA (K : PySem.W.Frag) (C : Addr) (x : Str) (a : Addr) : Bool := He.eqO (PySem.W.findIn K (.ref C) x) (some (some (.ref a)))
/-- the value u is worth d -/
def repU (K : PySem.W.Frag) : Nat → D → Value → Bool
  | 0, _, _ => false
  | n + 1, d, u => match d, u with
    | .non, .none => true
    | .bl b, .bool c => b == c
    | .int i, .int j _ => decide (i = j)
    | .str s, .str x _ => decide (x = toS s)
    | .tup l, .ref a => (match K.lookup a with
      | some ⟨.type t, none, .seq its _, _⟩ => t == "tuple" && decide (its.size ≤ 1000) && decide (l.length = its.toList.length) && (l.zip its.toList).all fun p => repU K n p.1 p.2
      | _ => false)
    | _, _ => false
def vOf : Value → V
  | .none => .non
  | .bool b => .bl b
  | .int i _ => .int i
  | .str x _ => .str x
  | .ref a => .ref a
  | _ => .non
theorem repU_ok {K : PySem.W.Frag} {Z : Ci} (hZ : Z.K = K) : ∀ {n : Nat} {d : D} {u : Value}, repU K n d u = true → RelV (vOf u) u ∧ ∀ F ρ, Rep Z F ρ d (vOf u)
  | n + 1, d, u, h => by
    unfold repU at h
    split at h
    · exact ⟨rfl, fun _ _ => .non⟩
    · have := eq_of_beq h; subst this; exact ⟨rfl, fun _ _ => .bl⟩
    · have := of_decide_eq_true h; subst this; exact ⟨⟨_, rfl⟩, fun _ _ => .int⟩
    · have := of_decide_eq_true h; subst this; exact ⟨⟨_, rfl⟩, fun _ _ => .str⟩
    · rename_i l a
      split at h
      · rename_i t its k sl e
        simp only [Bool.and_eq_true, beq_iff_eq, decide_eq_true_eq, List.all_eq_true] at h
        obtain ⟨⟨⟨rfl, h2⟩, h3⟩, h4⟩ := h
        have key : ∀ (l : List D) (its : List Value), l.length = its.length → (∀ p ∈ l.zip its, repU K n p.1 p.2 = true) → Vals (its.map vOf) its ∧ ∀ F ρ, Reps Z F ρ l (its.map vOf) := by
          intro l
          induction l with
          | nil => intro its hl _; cases its with
            | nil => exact ⟨.nil, fun _ _ => .nil⟩
            | cons _ _ => cases hl
          | cons d l ih => intro its hl hp; cases its with
            | nil => cases hl
            | cons u its =>
              obtain ⟨g1, g2⟩ := repU_ok hZ (hp (d, u) (by simp))
              obtain ⟨g3, g4⟩ := ih its (by simpa using hl) fun p hp' => hp p (by simp [hp'])
              exact ⟨.cons g1 g3, fun F ρ => .cons (g2 F ρ) (g4 F ρ)⟩
        obtain ⟨g1, g2⟩ := key l its.toList h3 h4
        refine ⟨rfl, fun F ρ => .tup (vs := its.toList.map vOf) (.inr ⟨_, its, k, by rw [hZ]; exact e, rfl, rfl, ?_, g1⟩) (g2 F ρ)⟩
        rw [sizeLine_eq]; omega
      · cases h
    · cases h
/-- a default's value -/
def repV (K : PySem.W.Frag) (d : D) (v : V) : Bool := match d, v with
  | .non, .non => true
  | .bl b, .bl c => b == c
  | .int i, .int j => decide (i = j)
  | .str s, .str x => decide (x = toS s)
  | .tup l, .ref a => repU K 5 (.tup l) (.ref a)
  | _, _ => false
theorem repV_ok {K : PySem.W.Frag} {Z : Ci} (hZ : Z.K = K) {d : D} {v : V} (h : repV K d v = true) : ∀ F ρ, Rep Z F ρ d v := by
  unfold repV at h
  split at h
  · exact fun _ _ => .non
  · have := eq_of_beq h; subst this; exact fun _ _ => .bl
  · have := of_decide_eq_true h; subst this; exact fun _ _ => .int
  · have := of_decide_eq_true h; subst this; exact fun _ _ => .str
  · exact (repU_ok hZ h).2
  · cases h
def repVs (K : PySem.W.Frag) : List D → List V → Bool
  | [], [] => true
  | d :: ds, v :: vs => repV K d v && repVs K ds vs
  | _, _ => false
theorem repVs_ok {K : PySem.W.Frag} {Z : Ci} (hZ : Z.K = K) : ∀ {ds : List D} {vs : List V}, repVs K ds vs = true → ∀ F ρ, Reps Z F ρ ds vs
  | [], [], _ => fun _ _ => .nil
  | d :: ds, v :: vs, h => by
    simp only [repVs, Bool.and_eq_true] at h
    exact fun F ρ => .cons (repV_ok hZ h.1 F ρ) (repVs_ok hZ h.2 F ρ)
  | [], _ :: _, h => by cases h
  | _ :: _, [], h => by cases h
def revB (K : PySem.W.Frag) (C : Addr) (x : Str) : Bool := match PySem.W.findIn K (.ref C) x with
  | some none => true
  | some (some (.ref _)) => true
  | _ => false
def ckD (L : Ld) (K : PySem.W.Frag) (d : Dd) : Bool := repVs K d.f.dfl (d.d.dvs K) && (!d.glob || He.eqO (PySem.W.nsIn K mainGlobals d.d.at_.1) (some (some (.ref (He.fAd K d.d.at_)))))
def kinds (L : Ld) : List D := [.non, .bl true, .int 0, .str [], .lst [], .tup [], .dr 0] ++ (List.range L.clss.length).map fun c => .ins c []
def tgts (L : Ld) : List Ty := [.int, .bool, .str, .list, .tuple, .dict] ++ (List.range L.clss.length).map .cls
def ckC (L : Ld) (K : PySem.W.Frag) (c : Nat) (d : Dc) : Bool :=
  let C := He.ga K d.name
  He.eqO (PySem.W.nsIn K mainGlobals d.name) (some (some (.ref C))) && (He.Fa.cls d.name).ok K && (d.cl.at_.all fun f => He.eqO (PySem.W.findIn K (.ref C) ((mtOf L).anm f)) (some none)) &&
  (d.cars.isEmpty || (PySem.W.makesIn K C && eqA K C "__init__" (adrOf L K d.cl.init) && PySem.W.isFn K (.ref (adrOf L K d.cl.init)) && PySem.W.keepIn K (.ref C))) && PySem.W.selfFirst K C && decide (PySem.W.subIn K (.type "int") (.ref C) = some false) && decide (PySem.W.subIn K (.ref C) (.type "int") = some false) &&
  (allBi.all fun o => (match d.cl.op o with
    | some f => eqA K C (PySem.dunder (opN o)) (adrOf L K f) && PySem.W.isFn K (.ref (adrOf L K f)) && revB K C (dunderR (opN o)) && allIx (fun e d' => match d'.cl.op o with
      | some _ => decide (C = He.ga K d'.name) || decide (PySem.W.subIn K (.ref (He.ga K d'.name)) (.ref C) = some false)
      | none => true) 0 L.clss
    | none => true) && (match d.cl.rop o with
    | some f => eqA K C (dunderR (opN o)) (adrOf L K f) && PySem.W.isFn K (.ref (adrOf L K f)) && (match PySem.W.findIn K (.ref C) (PySem.dunder (opN o)) with
      | some (some (.ref _)) => true
      | _ => false)
    | none => true)) && (match d.cl.neg with
    | some f => eqA K C "__neg__" (adrOf L K f) && PySem.W.isFn K (.ref (adrOf L K f))
    | none => true) && (allIx (fun i (m : Str × List Nat) => match d.cl.mth i with
    | some f => eqA K C m.1 (adrOf L K f) && PySem.W.isFn K (.ref (adrOf L K f)) && PySem.W.keepIn K (.ref (adrOf L K f)) && decide (m.1 ∉ cnOf L c)
    | none => true) 0 L.mths) && He.eqO (PySem.W.findIn K (.ref C) "__class__") (some (some (.builtin "object.__class__"))) && decide (PySem.W.mroIn K C (.type "object") = some true)
def ckX (L : Ld) (K : PySem.W.Frag) (c : Nat) (d : Dx) : Bool :=
  let C := He.ga K d.name
  He.eqO (PySem.W.nsIn K mainGlobals d.name) (some (some (.ref C))) && (match d.fs with
    | some fs => xfB K C && (fs.all fun f => He.eqO (PySem.W.findIn K (.ref C) ((mtOf L).anm f)) (some none)) && allIx (fun k d' => decide (PySem.W.exmOne K (.ref C) (.ref (He.ga K d'.name)) = some (xsOf L c k))) 0 L.excs
    | none => true) && (match d.ini with
    | some i => iniK K L.file C i (xnOf L c)
    | none => true)
def ckQ (L : Ld) (K : PySem.W.Frag) (c : Nat) (d : Dc) : Bool :=
  let C := He.ga K d.name
  match d.cl.eq with
  | some f => He.eqO (PySem.W.findIn K (.ref C) "__eq__") (some (some (.ref (adrOf L K f)))) && PySem.W.isFn K (.ref (adrOf L K f)) && He.eqO (PySem.W.findIn K (.ref C) "__ne__") (some (some (.builtin "object.__ne__")))
  | none => true
def ckE (L : Ld) (K : PySem.W.Frag) : Bool := allIx (ckX L K) 0 L.excs && (L.cos.all fun k => He.eqO (PySem.W.nsIn K mainGlobals k.d.name) (some (some (.ref (He.fAd K k.d.at_))))) && ((tbOf L K).all fun p => (tbOf L K).all fun q => !(p.1 == q.1) || p.2 == q.2) && allIx (ckQ L K) 0 L.clss
def ckM (L : Ld) (K : PySem.W.Frag) : Bool := (K.all fun p => !(p.2.cls == .type "list")) && L.defs.all (ckD L K) && allIx (ckC L K) 0 L.clss && (L.cons.all fun p => match PySem.W.nsIn K mainGlobals p.1 with
    | some (some u) => repU K 6 p.2 u
    | _ => false) && (blts.all fun x => He.eqO (PySem.W.nsIn K mainGlobals x) (some none)) && (!L.gcd || He.eqO (PySem.W.nsIn K mainGlobals "gcd") (some (some (.builtin "math.gcd")))) &&
  (allBi.all fun o => (PySem.W.findIn K (.type "int") (PySem.dunder (opN o))).isSome && (PySem.W.findIn K (.type "int") (dunderR (opN o))).isSome) &&
  ((kinds L).all fun d => (tgts L).all fun t => decide (PySem.W.kitOne K (tyVal (ziOf L K) d) (tyTgt (ziOf L K) t) = some (tyIs t d))) &&
  He.eqO (PySem.W.specialIn K (.builtin "object.__class__") "__get__") (some (some (.builtin "getset_descriptor.__get__"))) && decide (PySem.W.takesIn K (.builtin "object.__class__") = some true)
def ckB (L : Ld) (K : PySem.W.Frag) : Bool := ckE L K && ckM L K
section
variable {L : Ld} {K : PySem.W.Frag} {h : Heap} {mg : Str → Option Value}
theorem fns_at {i : Nat} {f : Fd} (h : (pgOf L).fns i = some f) : ∃ d, L.defs[i]? = some d ∧ d.f = f := by
  have h : (L.defs[i]?).map (·.f) = some f := h
  cases e : L.defs[i]? with
  | none => rw [e] at h; cases h
  | some d => rw [e] at h; cases h; exact ⟨d, rfl, rfl⟩
theorem cls_at {c : Nat} {cl : Cl} (h : (pgOf L).cls c = some cl) : ∃ d, L.clss[c]? = some d ∧ d.cl = cl := by
  have h : (L.clss[c]?).map (·.cl) = some cl := h
  cases e : L.clss[c]? with
  | none => rw [e] at h; cases h
  | some d => rw [e] at h; cases h; exact ⟨d, rfl, rfl⟩
theorem ca_at {c : Nat} {d : Dc} (h : L.clss[c]? = some d) : caOf L K c = He.ga K d.name := by unfold caOf; rw [h]
theorem cn_at {c : Nat} {d : Dc} (h : L.clss[c]? = some d) : cnOf L c = d.cl.at_.map (mtOf L).anm := by unfold cnOf; rw [h]
theorem fx_at {i : Nat} {d : Dd} (h : L.defs[i]? = some d) : fxOf L K i = fxD K d := by unfold fxOf; rw [h]
theorem adr_at {i : Nat} {d : Dd} (h : L.defs[i]? = some d) : adrOf L K i = He.fAd K d.d.at_ := by unfold adrOf; rw [h]
theorem eqA_ok {C : Addr} {x : Str} {a : Addr} (h : eqA K C x a = true) : PySem.W.findIn K (.ref C) x = some (some (.ref a)) := He.eqO_ok h
/-- how the defs' parameters are bound -/
def BndOk (L : Ld) : Prop := ∀ (i : Nat) (d : Dd), L.defs[i]? = some d → ∀ (K : PySem.W.Frag) (a : Addr) (fd : FuncData), FunD K d.d.name d.d.qual d.d.params d.d.body d.d.scope (d.d.dvs K) [] a fd → ∀ k, d.ars.contains k = true → k ≤ d.ps.length ∧ d.ps.length ≤ k + (d.d.dvs K).length ∧ ∃ ds, Vals ((d.d.dvs K).drop ((d.d.dvs K).length - (d.ps.length - k))) ds ∧ Binds K fd d.ps ds
theorem revB_ok {C : Addr} {x : Str} (h : revB K C x = true) : ∃ rc, PySem.W.findIn K (.ref C) x = some rc ∧ (rc = none ∨ ∃ g : Addr, rc = some (.ref g)) := by
  unfold revB at h
  split at h
  · rename_i e; exact ⟨none, e, .inl rfl⟩
  · rename_i g e; exact ⟨_, e, .inr ⟨g, rfl⟩⟩
  · cases h
theorem anm_inj (h : L.atts.Nodup) {f g : Nat} (hf : f < L.atts.length) (hg : g < L.atts.length) (e : (mtOf L).anm g = (mtOf L).anm f) : g = f := by
  have e : (L.atts[g]?).getD "?" = (L.atts[f]?).getD "?" := e
  rw [List.getElem?_eq_getElem hf, List.getElem?_eq_getElem hg] at e
  exact (List.getElem_inj h).mp e
theorem any_at {α : Type} {o : Option α} {p : α → Bool} (h : o.any p = true) : ∃ a, o = some a ∧ p a = true := by
  cases o with
  | none => cases h
  | some a => exact ⟨a, rfl, h⟩
/-- how the exceptions' parameters, the complaint defs' one are bound -/
def BndX (L : Ld) : Prop := ∀ (c : Nat) (d : Dx) (i : Ii), L.excs[c]? = some d → d.ini = some i → ∀ (kV doc pm : Value) (an : Option Addr) (cdv ct : Value) (cc : Addr) (us : List Value), us.length = (xnOf L c).length + 1 → bindArgs (PySem.W.ksFn i.name i.qual i.params i.body i.scope .none kV doc pm an cdv ct cc) ⟨us, []⟩ = pure ((("self" : Str) :: xnOf L c).zip us)
def BndK (L : Ld) : Prop := ∀ (g : Nat) (k : Dk), L.cos[g]? = some k → ∀ (kV doc pm : Value) (an : Option Addr) (cdv ct : Value) (us : List Value), us.length = 1 → bindArgs (PySem.W.fnOf k.d.name k.d.qual k.d.params k.d.body k.d.scope .none kV doc pm an cdv ct) ⟨us, []⟩ = pure ([k.a].zip us)
theorem chr_plain : ∀ c < 127, plainC c = true → Builtin.Str.reprChar 39 c = [c] := by decide +kernel
theorem fold_plain : ∀ (s : List Nat) (a : Array Nat), s.all plainC = true → s.foldl (fun out c => out ++ (Builtin.Str.reprChar 39 c).toArray) a = a ++ s.toArray
  | [], a, _ => by simp
  | c :: s, a, h => by
    rw [List.all_cons, Bool.and_eq_true] at h
    have hc : c < 127 := by
      have := h.1
      unfold plainC at this
      simp only [Bool.and_eq_true, decide_eq_true_eq] at this
      omega
    rw [List.foldl_cons, chr_plain c hc h.1, fold_plain s _ h.2]
    simp
theorem rpr_str {s : List Nat} (h : s.all plainC = true) : reprText (toS s) = toS (39 :: (s ++ [39])) := by
  have hq : reprQuote (toS s) = 39 := by
    have : (toS s).cps.contains 39 = false := by
      show s.toArray.contains 39 = false
      cases e : s.toArray.contains 39 with
      | false => rfl
      | true =>
        have hm : (39 : Nat) ∈ s := by simpa using e
        have := List.all_eq_true.mp h 39 hm
        revert this; decide
    unfold reprQuote
    rw [this]; rfl
  have : reprText (toS s) = ⟨((toS s).cps.foldl (fun out c => out ++ (Builtin.Str.reprChar (reprQuote (toS s)) c).toArray) #[reprQuote (toS s)]).push (reprQuote (toS s))⟩ := rfl
  rw [this, hq, ← Array.foldl_toList]
  show (⟨(List.foldl (fun out c => out ++ (Builtin.Str.reprChar 39 c).toArray) #[39] s).push 39⟩ : Str) = _
  rw [fold_plain s _ h]
  show _ = (⟨(39 :: (s ++ [39])).toArray⟩ : Str)
  congr 1
  apply Array.ext'
  simp
theorem rprP_ok {Z : Ci} {d : D} {s : List Nat} {v : V} {F : Hp} {ρ : List Addr} (h : rprP d = some s) (r : Rep Z F ρ d v) : reprL v = some (toS s) := by
  cases r with
  | non => cases h; rfl
  | bl => rename_i b; cases b <;> (cases h; rfl)
  | int =>
    rename_i i
    have h : (if i.natAbs.log2 < 1920 then some ((toString i).toList.map (·.toNat)) else none) = some s := h
    show (if i.natAbs.log2 < 1920 then some (toString i : Str) else none) = _
    by_cases z : i.natAbs.log2 < 1920
    · rw [if_pos z] at h ⊢; cases h; exact congrArg some (Str.ofString_eq_toList _)
    · rw [if_neg z] at h; cases h
  | str =>
    rename_i z
    have h : (if (z.all plainC && decide (z.length ≤ 1000)) = true then some (39 :: (z ++ [39])) else none) = some s := h
    by_cases q : (z.all plainC && decide (z.length ≤ 1000)) = true
    · rw [if_pos q] at h; cases h
      simp only [Bool.and_eq_true, decide_eq_true_eq] at q
      show (if (reprText (toS z)).length ≤ sizeLine then some (reprText (toS z)) else none) = _
      rw [rpr_str q.1, if_pos]
      show (39 :: (z ++ [39])).toArray.size ≤ sizeLine
      rw [sizeLine_eq]
      simp
      omega
    · rw [if_neg q] at h; cases h
  | _ => cases h
theorem ix_in {c : Nat} {d : Dx} (h : L.excs[c]? = some d) (k : Nat) : ∃ d', L.excs[ixE L k]? = some d' := by
  have hc := (List.getElem?_eq_some_iff.mp h).1
  have : ixE L k < L.excs.length := by unfold ixE; split <;> omega
  exact ⟨_, List.getElem?_eq_getElem this⟩
theorem ix_id {c : Nat} {d : Dx} (h : L.excs[c]? = some d) : ixE L c = c := if_pos (List.getElem?_eq_some_iff.mp h).1
theorem xa_at {c : Nat} {d : Dx} (h : L.excs[c]? = some d) : xaOf L K c = He.ga K d.name := by unfold xaOf; rw [ix_id h, h]
theorem ix_ix (k : Nat) : ixE L (ixE L k) = ixE L k := by unfold ixE; split <;> (try split) <;> first | rfl | omega
theorem lf_of {fa : List He.Fa} {fn : List He.DefD} {prog : Program} {base : Heap} (X : K.In h) (G : h.Ns mainGlobals mg) (s : stL L = true) (c : ckB L K = true) (hfn : fn = dfsOf L) (S : He.SaysD fa fn K) (hb : BndOk L) (hbx : BndX L) (hbk : BndK L)
    (hfile : prog.main.file = L.file) (htop : (prog.main.scope.names.lookup ("super" : Str)).isSome = false) (hI : ∀ d ∈ iniOf L, iObs K d.x = d.val) (hT : ∀ p ∈ tfOf L, LamX.TabB base mg (He.cT K p).1 (He.cT K p).2) (cc : Fc) :
    LF prog base K mg ((ziOf L K).at_ cc) (mtOf L) (pgOf L) (adrOf L K) (fxOf L K) (arOf L) := by
  subst hfn
  obtain ⟨sE, s⟩ := Bool.and_eq_true_iff.mp (show (stE L && stM L) = true from s)
  obtain ⟨cE, c⟩ := Bool.and_eq_true_iff.mp (show (ckE L K && ckM L K) = true from c)
  simp only [stM, Bool.and_eq_true, List.all_eq_true, decide_eq_true_eq] at s
  obtain ⟨⟨⟨s1, s2⟩, s3⟩, s4⟩ := s
  simp only [ckM, Bool.and_eq_true, List.all_eq_true, decide_eq_true_eq] at c
  obtain ⟨⟨⟨⟨⟨⟨⟨⟨⟨c0, c1⟩, c2⟩, c3⟩, c4⟩, c5⟩, c6⟩, c7⟩, c8⟩, c9⟩ := c
  have defm : ∀ {i : Nat} {d : Dd}, L.defs[i]? = some d → d ∈ L.defs := fun e => List.mem_of_getElem? e
  have sd : ∀ {i : Nat} {d : Dd}, L.defs[i]? = some d → stD L d = true := fun e => s1 _ (defm e)
  have sc : ∀ {c : Nat} {d : Dc}, L.clss[c]? = some d → stC L c d = true := fun e => allIx0 s2 e
  have kd : ∀ {i : Nat} {d : Dd}, L.defs[i]? = some d → ckD L K d = true := fun e => c1 _ (defm e)
  have kc : ∀ {c : Nat} {d : Dc}, L.clss[c]? = some d → ckC L K c d = true := fun e => allIx0 c2 e
  simp only [stE, Bool.and_eq_true, List.all_eq_true, decide_eq_true_eq] at sE
  obtain ⟨⟨⟨⟨⟨e1, e2⟩, e3⟩, e4⟩, e5⟩, e6⟩ := sE
  simp only [ckE, Bool.and_eq_true, List.all_eq_true] at cE
  obtain ⟨⟨⟨k1, k2⟩, k3⟩, k4⟩ := cE
  have xk : ∀ {c : Nat} {d : Dx}, L.excs[c]? = some d → ckX L K c d = true := fun e => allIx0 k1 e
  have xs_ : ∀ {c : Nat} {d : Dx}, L.excs[c]? = some d → stX L c d = true := fun e => allIx0 e1 e
  have xg : ∀ {c : Nat} {d : Dx}, L.excs[c]? = some d → mg d.name = some (.ref (xaOf L K c)) := fun {c d} e => by
    have q := xk e
    simp only [ckX, Bool.and_eq_true] at q
    rw [xa_at e]
    exact PySem.W.mg_of X G (He.eqO_ok q.1.1)
  have xn_ : ∀ k x, xnmOf L k = some x → mg x = some (.ref (((ziOf L K).at_ cc).xa k)) := fun k x e => by
    have e : (L.excs[k]?).map (·.name) = some x := e
    cases hd : L.excs[k]? with
    | none => rw [hd] at e; cases e
    | some d => rw [hd] at e; cases e; exact xg hd
  have inj : ∀ c fs, (pgOf L).xat c = some fs → ∀ f, ∀ g ∈ fs, (mtOf L).anm g = (mtOf L).anm f → g = f := fun c fs e f g hg z => by
    have e : (L.excs[c]?).bind (·.fs) = some fs := e
    cases hd : L.excs[c]? with
    | none => rw [hd] at e; cases e
    | some d =>
      rw [hd] at e
      have e : d.fs = some fs := e
      have q := xs_ hd
      simp only [stX, Bool.and_eq_true, e, List.all_eq_true, decide_eq_true_eq] at q
      have hg' := q.1 g hg
      by_cases hf : f < L.atts.length
      · exact anm_inj s3 hf hg' z
      · exfalso
        have z : (L.atts[g]?).getD "?" = (L.atts[f]?).getD "?" := z
        rw [List.getElem?_eq_getElem hg', List.getElem?_eq_none (by omega)] at z
        have z : L.atts[g] = "?" := z
        exact e4 (z ▸ List.getElem_mem hg')
  refine ⟨rfl, fun i f hf => ?_, fun f x k h1 h2 => ?_, fun c x h1 => ?_, fun c k h1 => ?_, fun i y k h1 h2 => ?_, fun i x h1 => ?_, fun x hx => PySem.W.mg_none_of X G (He.eqO_ok (c4 x hx)), fun g => ?_, fun c cl h1 => ?_, fun o c cl f h1 h2 => ?_, fun o c k f d k' f' h1 h2 h3 h4 h5 => ?_, fun o c cl f h1 h2 => ?_, fun o h1 => ?_, fun o => ?_, fun c cl f h1 h2 => ?_, fun d t h1 h2 => ?_, fun c h1 => ?_, ⟨He.eqO_ok c8, c9⟩, fun g y h1 => ?_, fun c fs h1 => ?_, fun c k fs h1 => ?_, fun d s v F ρ h1 h2 => rprP_ok h1 h2, fun c x h1 => ?_, fun c cl f h1 h2 => ?_, rfl, fun i f hf hne => ?_, fun i f hf hl => ?_⟩
  · -- a def
    obtain ⟨d, hd, rfl⟩ := fns_at hf
    have q := sd hd
    simp only [stD, Bool.and_eq_true, decide_eq_true_eq] at q
    obtain ⟨⟨⟨⟨⟨⟨q1, q2⟩, q3⟩, q4⟩, q5⟩, q6⟩, q7⟩ := q
    have k := kd hd
    simp only [ckD, Bool.and_eq_true] at k
    rw [fx_at hd, adr_at hd]
    obtain ⟨fd, hfd⟩ := S.defs (d := d.d) (List.mem_append_left _ (List.mem_map.mpr ⟨d, List.mem_of_getElem? hd, rfl⟩))
    have hkw : d.d.kws K = [] := by unfold He.DefD.kws; rw [List.isEmpty_iff.mp q5]; rfl
    rw [hkw] at hfd
    refine ⟨⟨fd, hfd, fun k hk => ?_⟩, scB_ok q1, q2, q3, repVs_ok rfl k.1, q4, fun c hc => ?_⟩
    · refine hb i d hd K _ fd hfd k ?_
      unfold arOf at hk
      rw [hd] at hk
      exact hk
    · rw [hc] at q7
      show ∃ y r, d.ps = y :: r
      cases e : d.ps with
      | nil => rw [e] at q7; cases q7
      | cons y r => exact ⟨y, r, rfl⟩
  · -- a call
    have h1 : (L.defs[f]?).bind (fun d => if d.glob = true then some d.d.at_.1 else none) = some x := h1
    obtain ⟨d, hd, h2⟩ := any_at h2
    rw [hd] at h1
    simp only [Option.bind_some] at h1
    have q := sd hd
    simp only [stD, Bool.and_eq_true, decide_eq_true_eq] at q
    obtain ⟨⟨⟨⟨⟨⟨q1, q2⟩, q3⟩, q4⟩, q5⟩, q6⟩, q7⟩ := q
    have k := kd hd
    simp only [ckD, Bool.and_eq_true] at k
    rw [Bool.and_eq_true] at h2
    obtain ⟨h2, h3⟩ := h2
    rw [if_pos h2] at h1
    cases h1
    simp only [h2, Bool.not_true, Bool.false_or, Bool.and_eq_true] at q6 k
    refine ⟨by rw [adr_at hd]; exact PySem.W.mg_of X G (He.eqO_ok k.2), d.f, by show (L.defs[f]?).map _ = _; rw [hd]; rfl, Option.isNone_iff_eq_none.mp q6.1, ?_⟩
    unfold arOf
    rw [hd]
    exact h3
  · -- a class's name
    have h1 : (L.clss[c]?).map (·.name) = some x := h1
    cases hd : L.clss[c]? with
    | none => rw [hd] at h1; cases h1
    | some d =>
      rw [hd] at h1; cases h1
      have k := kc hd
      simp only [ckC, Bool.and_eq_true] at k
      show mg d.name = some (.ref (caOf L K c))
      rw [ca_at hd]
      exact PySem.W.mg_of X G (He.eqO_ok k.1.1.1.1.1.1.1.1.1.1.1)
  · -- a class called
    obtain ⟨d, hd, h1⟩ := any_at h1
    have q := sc hd
    simp only [stC, Bool.and_eq_true] at q
    have kk := kc hd
    simp only [ckC, Bool.and_eq_true] at kk
    have ne : d.cars.isEmpty = false := by
      cases e : d.cars with
      | nil => rw [e] at h1; cases h1
      | cons _ _ => rfl
    have q1 := q.1.1.1.2
    rw [ne, Bool.false_or] at q1
    obtain ⟨e, he, q1⟩ := any_at q1
    simp only [Bool.and_eq_true, decide_eq_true_eq, List.all_eq_true] at q1
    have k1 := kk.1.1.1.1.1.1.1.1.2
    rw [ne, Bool.false_or] at k1
    simp only [Bool.and_eq_true] at k1
    refine ⟨d.cl, e.f, by show (L.clss[c]?).map _ = _; rw [hd]; rfl, by show (L.defs[d.cl.init]?).map _ = _; rw [he]; rfl, q1.1, ?_, ?_⟩
    · show Mk K (caOf L K c) _
      rw [ca_at hd]
      exact ⟨k1.1.1.1, eqA_ok k1.1.1.2, k1.1.2, k1.2⟩
    · unfold arOf
      rw [he]
      exact q1.2 k (by simpa using h1)
  · -- a method
    have h1 : (L.mths[i]?).map (·.1) = some y := h1
    obtain ⟨m, hm, h2⟩ := any_at h2
    rw [hm] at h1; cases h1
    refine ⟨?_, fun c cl f h3 h4 => ?_⟩
    · have q := allIx0 s4 hm
      simp only [List.any_eq_true] at q
      obtain ⟨d, hd, q⟩ := q
      obtain ⟨c, hc⟩ := List.mem_iff_getElem?.mp hd
      obtain ⟨f, hf⟩ := Option.isSome_iff_exists.mp q
      exact ⟨c, d.cl, f, by show (L.clss[c]?).map _ = _; rw [hc]; rfl, hf⟩
    · obtain ⟨d, hd, rfl⟩ := cls_at h3
      have q := sc hd
      simp only [stC, Bool.and_eq_true] at q
      have kk := kc hd
      simp only [ckC, Bool.and_eq_true] at kk
      have q1 := allIx0 q.2 hm
      have k1 := allIx0 kk.1.1.2 hm
      simp only [h4, List.all_eq_true, Bool.and_eq_true, decide_eq_true_eq] at q1 k1
      refine ⟨?_, ?_, fun z hz e => ?_, okD_ok (q1 k (by simpa using h2))⟩
      · show Cls K (caOf L K c)
        rw [ca_at hd]
        exact He.cls_ok kk.1.1.1.1.1.1.1.1.1.1.2
      · show Meth K (caOf L K c) _ _
        rw [ca_at hd]
        exact ⟨eqA_ok k1.1.1.1, k1.1.1.2, k1.1.2⟩
      · subst e; exact k1.2 hz
  · -- a constant
    have h1 : (L.cons[i]?).map (·.1) = some x := h1
    cases hp : L.cons[i]? with
    | none => rw [hp] at h1; cases h1
    | some p =>
      rw [hp] at h1; cases h1
      have q := c3 p (List.mem_of_getElem? hp)
      split at q
      · rename_i u e
        obtain ⟨g1, g2⟩ := repU_ok (Z := (ziOf L K).at_ cc) rfl q
        exact ⟨p.2, vOf u, u, by show (L.cons[i]?).map _ = _; rw [hp]; rfl, PySem.W.mg_of X G e, g1, g2⟩
      · cases q
  · have g : L.gcd = true := g
    rw [g, Bool.not_true, Bool.false_or] at c5
    exact PySem.W.mg_of X G (He.eqO_ok c5)
  · -- a class's fields
    obtain ⟨d, hd, rfl⟩ := cls_at h1
    have q := sc hd
    simp only [stC, Bool.and_eq_true, decide_eq_true_eq, List.all_eq_true] at q
    have k := kc hd
    simp only [ckC, Bool.and_eq_true, List.all_eq_true] at k
    refine ⟨cn_at hd, fun f g hf hg e => anm_inj s3 hf (q.1.1.1.1.2 g hg) e, ?_, fun f hf => ?_, q.1.1.1.1.1, q.1.1.1.1.2⟩
    · show Cls K (caOf L K c)
      rw [ca_at hd]
      exact He.cls_ok k.1.1.1.1.1.1.1.1.1.1.2
    · show NoAttr K (caOf L K c) _
      rw [ca_at hd]
      exact He.eqO_ok (k.1.1.1.1.1.1.1.1.1.2 f hf)
  · -- an operator
    obtain ⟨d, hd, rfl⟩ := cls_at h1
    have q := sc hd
    simp only [stC, Bool.and_eq_true, List.all_eq_true] at q
    have k := kc hd
    simp only [ckC, Bool.and_eq_true, List.all_eq_true, decide_eq_true_eq] at k
    have q1 := (q.1.1.2 o (mem_allBi o)).1
    have k1 := (k.1.1.1.1.2 o (mem_allBi o)).1
    simp only [h2, Bool.and_eq_true] at q1 k1
    show PySem.W.selfFirst K (caOf L K c) = true ∧ OpD K (caOf L K c) _ _ ∧ PySem.W.subIn K _ (.ref (caOf L K c)) = _ ∧ _
    rw [ca_at hd]
    exact ⟨k.1.1.1.1.1.1.1.2, ⟨eqA_ok k1.1.1.1, k1.1.1.2, revB_ok k1.1.2⟩, k.1.1.1.1.1.1.2, okD_ok q1⟩
  · obtain ⟨e, he, rfl⟩ := cls_at h1
    obtain ⟨e', he', rfl⟩ := cls_at h3
    have k := kc he
    simp only [ckC, Bool.and_eq_true, List.all_eq_true, decide_eq_true_eq] at k
    have k1 := (k.1.1.1.1.2 o (mem_allBi o)).1
    simp only [h2, Bool.and_eq_true] at k1
    have k2 := allIx0 k1.2 he'
    simp only [h4, Bool.or_eq_true, decide_eq_true_eq] at k2
    have h5 : caOf L K c ≠ caOf L K d := h5
    show PySem.W.subIn K (.ref (caOf L K d)) (.ref (caOf L K c)) = some false
    rw [ca_at he, ca_at he'] at h5 ⊢
    exact k2.resolve_left h5
  · obtain ⟨d, hd, rfl⟩ := cls_at h1
    have q := sc hd
    simp only [stC, Bool.and_eq_true, List.all_eq_true] at q
    have k := kc hd
    simp only [ckC, Bool.and_eq_true, List.all_eq_true, decide_eq_true_eq] at k
    have q1 := (q.1.1.2 o (mem_allBi o)).2
    have k1 := (k.1.1.1.1.2 o (mem_allBi o)).2
    simp only [h2, Bool.and_eq_true] at q1 k1
    show PySem.W.selfFirst K (caOf L K c) = true ∧ (∃ b, PySem.W.findIn K (.ref (caOf L K c)) _ = _ ∧ _ ∧ PySem.W.findIn K (.ref (caOf L K c)) _ = _) ∧ PySem.W.subIn K (.ref (caOf L K c)) _ = _ ∧ _
    rw [ca_at hd]
    obtain ⟨k2, k3⟩ := k1
    split at k3
    · rename_i b e
      exact ⟨k.1.1.1.1.1.1.1.2, ⟨b, eqA_ok k2.1, k2.2, e⟩, k.1.1.1.1.1.2, okD_ok q1.1⟩
    · cases k3
  · obtain ⟨c, cl, f, h1, h2⟩ := h1
    obtain ⟨d, hd, rfl⟩ := cls_at h1
    have q := sc hd
    simp only [stC, Bool.and_eq_true, List.all_eq_true] at q
    have q1 := (q.1.1.2 o (mem_allBi o)).2
    simp only [h2, Bool.and_eq_true] at q1
    cases o <;> first | exact intOp_add | exact intOp_sub | exact intOp_mul | cases q1.2
  · have q := c6 o (mem_allBi o)
    obtain ⟨a, ha⟩ := Option.isSome_iff_exists.mp q.1
    obtain ⟨b, hb'⟩ := Option.isSome_iff_exists.mp q.2
    exact ⟨a, b, ha, hb'⟩
  · obtain ⟨d, hd, rfl⟩ := cls_at h1
    have q := sc hd
    simp only [stC, Bool.and_eq_true, List.all_eq_true] at q
    have k := kc hd
    simp only [ckC, Bool.and_eq_true, List.all_eq_true, decide_eq_true_eq] at k
    have q1 := q.1.2
    have k1 := k.1.1.1.2
    simp only [h2, Bool.and_eq_true] at q1 k1
    show PySem.W.findIn K (.ref (caOf L K c)) _ = _ ∧ _
    rw [ca_at hd]
    exact ⟨eqA_ok k1.1, k1.2, okD_ok q1⟩
  · -- isinstance
    have ht : t ∈ tgts L := by
      unfold tgts
      cases t with
      | cls c =>
        obtain ⟨cl, hcl⟩ := Option.isSome_iff_exists.mp h2
        obtain ⟨d', hd', _⟩ := cls_at hcl
        exact List.mem_append_right _ (List.mem_map.mpr ⟨c, List.mem_range.mpr (List.getElem?_eq_some_iff.mp hd').1, rfl⟩)
      | _ => simp
    have key : ∀ d0 ∈ kinds L, tyVal (ziOf L K) d0 = tyVal ((ziOf L K).at_ cc) d → tyIs t d0 = tyIs t d → PySem.W.kitOne K (tyVal ((ziOf L K).at_ cc) d) (tyTgt ((ziOf L K).at_ cc) t) = some (tyIs t d) := fun d0 hd0 e1 e2 => by
      rw [← e1, ← e2]; exact c7 d0 hd0 t ht
    cases d with
    | non => exact key .non (by simp [kinds]) rfl rfl
    | bl b => exact key (.bl true) (by simp [kinds]) rfl (by cases t <;> rfl)
    | int i => exact key (.int 0) (by simp [kinds]) rfl (by cases t <;> rfl)
    | str z => exact key (.str []) (by simp [kinds]) rfl (by cases t <;> rfl)
    | lst l => exact key (.lst []) (by simp [kinds]) rfl (by cases t <;> rfl)
    | tup l => exact key (.tup []) (by simp [kinds]) rfl (by cases t <;> rfl)
    | dr n => exact key (.dr 0) (by simp [kinds]) rfl (by cases t <;> rfl)
    | fn _ => cases h1
    | ins c fs =>
      obtain ⟨cl, hcl⟩ := Option.isSome_iff_exists.mp h1
      obtain ⟨d', hd', _⟩ := cls_at hcl
      refine key (.ins c []) ?_ rfl (by cases t <;> rfl)
      unfold kinds
      exact List.mem_append_right _ (List.mem_map.mpr ⟨c, List.mem_range.mpr (List.getElem?_eq_some_iff.mp hd').1, rfl⟩)
  · obtain ⟨cl, hcl⟩ := Option.isSome_iff_exists.mp h1
    obtain ⟨d, hd, _⟩ := cls_at hcl
    have k := kc hd
    simp only [ckC, Bool.and_eq_true, List.all_eq_true, decide_eq_true_eq] at k
    show PySem.W.findIn K (.ref (caOf L K c)) _ = _ ∧ PySem.W.mroIn K (caOf L K c) _ = _
    rw [ca_at hd]
    exact ⟨He.eqO_ok k.1.2, k.2⟩
  · -- a complaint def
    have h1 : (L.cos[g]?).map (·.d.name) = some y := h1
    cases hk : L.cos[g]? with
    | none => rw [hk] at h1; cases h1
    | some k =>
      rw [hk] at h1; cases h1
      have hm := List.mem_of_getElem? hk
      obtain ⟨fd, hfd⟩ := S.defs (d := k.d) (List.mem_append_right _ (List.mem_map.mpr ⟨k, hm, rfl⟩))
      have hdf : k.d.dvs K = [] := by
        have z := e2 k hm
        simp only [coB, Bool.and_eq_true] at z
        unfold He.DefD.dvs
        rw [List.isEmpty_iff.mp z.2]; rfl
      rw [hdf] at hfd
      exact coF_of (e2 k hm) hfd (PySem.W.mg_of X G (He.eqO_ok (k2 k hm))) (by show (L.cos[g]?).map _ = _; rw [hk]; rfl) xn_ inj (hbk g k hk)
  · -- an exception's fields
    have h0 := h1
    have h1 : (L.excs[c]?).bind (·.fs) = some fs := h1
    cases hd : L.excs[c]? with
    | none => rw [hd] at h1; cases h1
    | some d =>
      rw [hd] at h1
      have h1 : d.fs = some fs := h1
      have q := xk hd
      simp only [ckX, Bool.and_eq_true, h1, List.all_eq_true] at q
      refine ⟨?_, ?_, fun f hf => ?_, fun f g hf hg z => inj c fs h0 f g hg z⟩
      · show XfC K (xaOf L K c)
        rw [xa_at hd]; exact xfB_ok q.1.2.1.1
      · show xnOf L c = _
        unfold xnOf; rw [hd]
        show List.map _ (d.fs.getD []) = _
        rw [h1]; rfl
      · show PySem.W.findIn K (.ref (xaOf L K c)) _ = _
        rw [xa_at hd]; exact He.eqO_ok (q.1.2.1.2 f hf)
  · -- an exception asked for
    have h1 : (L.excs[c]?).bind (·.fs) = some fs := h1
    cases hd : L.excs[c]? with
    | none => rw [hd] at h1; cases h1
    | some d =>
      rw [hd] at h1
      have h1 : d.fs = some fs := h1
      have q := xk hd
      simp only [ckX, Bool.and_eq_true, h1, List.all_eq_true] at q
      obtain ⟨d', hd'⟩ := ix_in hd k
      have q2 := of_decide_eq_true (allIx0 q.1.2.2 hd')
      show PySem.W.exmOne K (.ref (xaOf L K c)) (.ref (xaOf L K k)) = some (xsOf L c k)
      have ea : xaOf L K k = He.ga K d'.name := by unfold xaOf; rw [hd']
      have es : xsOf L c (ixE L k) = xsOf L c k := by unfold xsOf; rw [ix_ix]
      rw [xa_at hd, ea, ← es]; exact q2
  · -- an exception raised
    have h1 : (L.excs[c]?).bind (fun d => if d.ini.isSome = true then some d.name else none) = some x := h1
    cases hd : L.excs[c]? with
    | none => rw [hd] at h1; cases h1
    | some d =>
      rw [hd] at h1
      simp only [Option.bind_some] at h1
      cases hi : d.ini with
      | none => rw [hi] at h1; cases h1
      | some i =>
        rw [hi] at h1
        cases h1
        have q := xk hd
        have q2 := xs_ hd
        simp only [ckX, Bool.and_eq_true, hi] at q
        simp only [stX, Bool.and_eq_true, hi, decide_eq_true_eq, Bool.not_eq_true'] at q2
        obtain ⟨_, ⟨⟨q3, q4⟩, q5⟩, q6⟩ := q2
        have hm : i ∈ iniOf L := List.mem_filterMap.mpr ⟨d, List.mem_of_getElem? hd, hi⟩
        have R := xiF_of (P := prog) (K := K) (C := He.ga K d.name) (d := i) (xs := xnOf L c) hfile htop (hI i hm) q4 q.2 (hbx c d i hd hi)
        have ec : ((ziOf L K).at_ cc).xa c = He.ga K d.name := xa_at hd
        refine ⟨⟨_, xnOf L c, by rw [ec]; exact R.1, fun z => (by rw [z] at q6; cases q6), rfl, fun fs hfs => ?_, by rw [ec]; exact R.2.1, R.2.2⟩, xg hd⟩
        have hfs : (L.excs[c]?).bind (·.fs) = some fs := hfs
        rw [hd] at hfs
        have hfs : d.fs = some fs := hfs
        unfold xnOf
        rw [hd]
        show fs.length = ((d.fs.getD []).map _).length
        rw [hfs, List.length_map]; rfl
  · -- a class's ==
    obtain ⟨d, hd, rfl⟩ := cls_at h1
    have q := allIx0 e5 hd
    have k := allIx0 k4 hd
    have kk := kc hd
    simp only [ckC, Bool.and_eq_true, List.all_eq_true, decide_eq_true_eq] at kk
    simp only [stQ, h2, Bool.and_eq_true] at q
    simp only [ckQ, h2, Bool.and_eq_true] at k
    obtain ⟨e, he, q2⟩ := any_at q.2
    obtain ⟨d1, g1, g2, g3⟩ := okD_ok q.1
    have : d1 = e.f := by
      have g1 : (L.defs[f]?).map (·.f) = some d1 := g1
      rw [he] at g1; cases g1; rfl
    subst this
    show PySem.W.findIn K (.ref (caOf L K c)) _ = _ ∧ _ ∧ PySem.W.findIn K (.ref (caOf L K c)) _ = _ ∧ PySem.W.mroIn K (caOf L K c) _ = _ ∧ _
    rw [ca_at hd]
    exact ⟨He.eqO_ok k.1.1, k.1.2, He.eqO_ok k.2, kk.2, _, g1, g2, of_decide_eq_true q2, g3⟩
  · -- a def with lambdas of its own
    obtain ⟨d, hd, rfl⟩ := fns_at hf
    have q := allIx0 e6 hd
    have ne : d.f.lams.isEmpty = false := by
      cases e : d.f.lams with
      | nil => exact absurd e hne
      | cons _ _ => rfl
    simp only [stW, ne, Bool.false_or, Bool.and_eq_true, Bool.not_eq_true'] at q
    rw [fx_at hd]
    refine ⟨Option.isNone_iff_eq_none.mp q.1.1.1, fun k => ?_, q.1.2, q.2⟩
    unfold arOf
    rw [hd]
    show d.ars.contains k = false
    rw [List.isEmpty_iff.mp q.1.1.2]; rfl
  · -- a def with lambdas
    obtain ⟨d, hd, rfl⟩ := fns_at hf
    rw [fx_at hd] at hl ⊢
    rw [adr_at hd]
    have hl : (mtOf L).lam (d.d.qual ++ ".<locals>.") = true := hl
    have q := allIx0 e3 hd
    simp only [hl, Bool.not_true, Bool.false_or, List.contains_iff_mem] at q
    have hm : d.d.at_ ∈ tfOf L := List.mem_filterMap.mpr ⟨i, q, by rw [hd]; rfl⟩
    have hmt : ((He.cT K d.d.at_).2, d.d.qual ++ ".<locals>." ++ "<lambda>") ∈ tbOf L K := List.mem_filterMap.mpr ⟨i, q, by rw [hd]; rfl⟩
    obtain ⟨fd, hfd⟩ := S.defs (d := d.d) (List.mem_append_left _ (List.mem_map.mpr ⟨d, List.mem_of_getElem? hd, rfl⟩))
    obtain ⟨oc, od, dV, kV, doc, pm, an, cdv, ct, osl, rfl, lk, hcd, _, _⟩ := hfd.ex
    obtain ⟨cc, rfl⟩ := He.codeIn_ref hcd
    refine ⟨(He.cT K d.d.at_).1, (He.cT K d.d.at_).2, fun oc' od' fd' osl' lk' => ?_, hT _ hm, hmt, fun p hp z => ?_⟩
    · have e1 : He.codeOf K d.d.at_ = cc := He.codeOf_eq lk rfl
      rw [lk] at lk'
      cases lk'
      show Value.ref cc = .ref (He.codeOf K d.d.at_)
      rw [e1]
    · have w := k3 _ hmt p hp
      simp only [z, beq_self_eq_true, Bool.not_true, Bool.false_or, beq_iff_eq] at w
      exact w.symm
end
end Mi

set_option Elab.async false
set_option linter.all false
set_option maxRecDepth 100000
set_option maxHeartbeats 8000000
/-! Mi, part 28: a law's end. -/
namespace Mi
open PySem PySem.Spec PyProof.Rows L2
theorem FunD.bindsF {K : PySem.W.Frag} {x qual : Str} {params : Arguments} {body : List Stmt} {scope : Scope} {dvs : List V} {kws : List (Str × V)} {f : Addr} {fd : FuncData} {ps : List Str} (F : FunD K x qual params body scope dvs kws f fd)
    (h : ∀ (dV kV doc pm : Value) (an : Option Addr) (cdv ct : Value) (us : List Value), us.length = ps.length → bindArgs (PySem.W.fnOf x qual params body scope dV kV doc pm an cdv ct) ⟨us, []⟩ = pure (ps.zip us)) : Binds K fd ps [] := by
  obtain ⟨oc, od, dV, kV, doc, pm, an, cdv, ct, osl, rfl, _⟩ := F.ex
  exact .all (h dV kV doc pm an cdv ct)
/-- what is told of the head's end -/
structure SaysM (L : Ld) (h : Heap) (K : PySem.W.Frag) : Prop where
  d : He.SaysD [] (dfsOf L) K
  ck : ckB L K = true
  hd : ∀ p ∈ tfOf L, PySem.W.codeHdIn K (He.cT K p).1 (He.cT K p).2 = true
  out : ∀ p ∈ tfOf L, K.lookup (He.cT K p).2 = none
  empty : ∀ p ∈ tfOf L, h.get? (He.cT K p).2 = some { cls := .none, data := .fields #[] }
  ini : ∀ d ∈ iniOf L, iObs K d.x = d.val
/-- marks: a bit for each address -/
def hasBit (m a : Nat) : Bool := Nat.beq (Nat.land (Nat.shiftRight m a) 1) 1
def freshOf : List Addr → List Addr → Nat → (List Addr → Nat → List Addr) → List Addr
  | [], acc, m, k => k acc m
  | a :: l, acc, m, k => bif hasBit m a then freshOf l acc m k else freshOf l (a :: acc) (Nat.lor m (Nat.shiftLeft 1 a)) k
def refsAll (g : Addr → Option Obj) (l : List Addr) : List Addr := l.flatMap fun a => match g a with
  | some o => He.refsD o
  | none => []
/-- what is named from here within n steps, each address once -/
def asW (g : Addr → Option Obj) : Nat → List Addr → Nat → List Addr
  | 0, l, _ => l
  | n + 1, l, m => l ++ freshOf (refsAll g l) [] m fun l' m' => asW g n l'.reverse m'
def asM (g : Addr → Option Obj) (n : Nat) : List Addr := asW g n [mainGlobals] (Nat.shiftLeft 1 mainGlobals) ++ [cStatics]
abbrev AlM : Type := (He.AlD × Bool) × List FnI
def obM (n : Nat) (L : Ld) (g : Addr → Option Obj) : AlM :=
  let K := He.frT g (asM g n)
  ((He.obsD [] (dfsOf L) K, ckB L K && He.tabsB g (tfOf L) K), (iniOf L).map fun d => iObs K d.x)
def vaM (L : Ld) : AlM := ((He.valD (dfsOf L), true), (iniOf L).map Ii.val)
theorem saysM_of {n : Nat} {L : Ld} {h : Heap} (e : obM n L h.get? = vaM L) : SaysM L h (He.frT h.get? (asM h.get? n)) := by
  have e1 : He.obsD [] (dfsOf L) (He.frT h.get? (asM h.get? n)) = He.valD (dfsOf L) := congrArg (fun z : AlM => z.1.1) e
  have e2 : (ckB L (He.frT h.get? (asM h.get? n)) && He.tabsB h.get? (tfOf L) (He.frT h.get? (asM h.get? n))) = true := congrArg (fun z : AlM => z.1.2) e
  have e3 : (iniOf L).map (fun d => iObs (He.frT h.get? (asM h.get? n)) d.x) = (iniOf L).map Ii.val := congrArg (fun z : AlM => z.2) e
  obtain ⟨h1, h2⟩ := Bool.and_eq_true_iff.mp e2
  have key : ∀ p ∈ tfOf L, PySem.W.codeHdIn (He.frT h.get? (asM h.get? n)) (He.cT (He.frT h.get? (asM h.get? n)) p).1 (He.cT (He.frT h.get? (asM h.get? n)) p).2 = true ∧ ∃ o, h.get? (He.cT (He.frT h.get? (asM h.get? n)) p).2 = some o ∧ He.emptyTab o = true := fun p hp => by
    obtain ⟨h3, h4⟩ := Bool.and_eq_true_iff.mp (List.all_eq_true.mp h2 p hp)
    refine ⟨h3, ?_⟩
    cases q : h.get? (He.cT (He.frT h.get? (asM h.get? n)) p).2 with
    | none => rw [q] at h4; cases h4
    | some o => rw [q] at h4; exact ⟨o, rfl, h4⟩
  exact ⟨e1, h1, fun p hp => (key p hp).1, fun p hp => by
    obtain ⟨_, o, q, z⟩ := key p hp
    exact He.frT_none q z, fun p hp => by
    obtain ⟨_, o, q, z⟩ := key p hp
    rw [q, He.emptyTab_eq z], fun d hd => List.map_inj_left.mp e3 d hd⟩
/-- the head's test: the defs as they stand, one test of the written part, the exceptions' __init__ -/
def hookM (n : Nat) (L : Ld) : PySem.W.Hook where
  α := AlM
  obs := fun s => obM n L s.heap.get?
  val := fun _ => vaM L
  says := fun _ h => ∃ K : PySem.W.Frag, K.In h ∧ SaysM L h K
  of := fun _ _ e => ⟨_, He.frT_in, saysM_of e⟩
  keeps := fun _ _ _ ⟨K, hK, c⟩ k => ⟨K, PySem.W.Frag.In.keeps hK k, ⟨c.d, c.ck, c.hd, c.out, fun p hp => k _ _ (c.empty p hp), c.ini⟩⟩
theorem obM_eq {n : Nat} {L : Ld} {g : Addr → Option Obj} {s : Shared} (h : ∀ a, g a = s.heap.get? a) : obM n L g = (hookM n L).obs s := by
  have e : g = s.heap.get? := funext h
  rw [e] <;> rfl
def CXA (P : Program) : CXT := fun outer H s E e s' => ∃ w, L2.CX P w outer H s E e s'
theorem FnOk.cxa {P : Program} {w : World} {K : PySem.W.Frag} {mg : Str → Option Value} {base : Heap} {k : Nat} {f : Addr} {fd : FuncData} {ps : List Str} {sp : Sp} (h : FnOk P w K mg base (L2.CX P w) k f fd ps sp) : FnOk P w K mg base (CXA P) k f fd ps sp := by
  refine ⟨h.len, fun A outer s H args us vs Q E hr he hb hv hs => codeAny_mono (h.run A outer s H args us vs Q E hr he hb hv hs) fun r s' q => ?_⟩
  match r, q with
  | .ok (.ret u), q => exact q
  | .ok .next, q => exact q.elim
  | .ok .brk, q => exact q.elim
  | .ok .cont, q => exact q.elim
  | .error e, q => exact ⟨w, q⟩
theorem mem_look {a : Addr} {o : Obj} : ∀ {K : PySem.W.Frag}, K.lookup a = some o → (a, o) ∈ K
  | [], h => by cases h
  | (b, u) :: K, h => by
    rw [List.lookup_cons] at h
    cases e : a == b with
    | true =>
      rw [e] at h
      have := Option.some.inj h
      subst this
      rw [beq_iff_eq.mp e]
      exact List.mem_cons_self
    | false => rw [e] at h; exact List.mem_cons_of_mem _ (mem_look h)
theorem ints_ok {Z : Ci} {F : Hp} {ρ : List Addr} : ∀ ns : List Int, Reps Z F ρ (ns.map D.int) (ns.map V.int)
  | [] => .nil
  | n :: ns => .cons .int (ints_ok ns)
theorem law_end {l : PySem.W.OpenLaw} {n : Nat} {q : Program} {loose : List Str} {XP : (Str → Option Value) → Heap → Prop} {YP : World → Heap → Prop} {d : DefRec} {x : Str} {L : Ld} {fuel N i0 : Nat} {d0 : Dd}
    (hn : l.most = some n) (hn2 : n ≤ sizeLine) (hdf : d.params.defaults = []) (hr : Room (lev N) callerA) (h0 : L.defs[i0]? = some d0) (hini : d0.f.ini = none) (hnp : d0.f.np = 1) (hps : d0.ps = [x]) (hgl : d0.glob = true) (hat : d0.d.at_.2 = none) (hnm : d.name = d0.d.at_.1)
    (hdfl : d0.d.dfl = []) (st : stL L = true) (hb : BndOk L) (hb1 : ∀ (K : PySem.W.Frag) (a : Addr) (fd : FuncData), FunD K d0.d.name d0.d.qual d0.d.params d0.d.body d0.d.scope [] [] a fd → ∀ (s : Shared) (u : Value), BindsTo s fd ⟨[u], []⟩ [(x, u)])
    (hbx : BndX L) (hbk : BndK L) (hfile : l.prog.main.file = L.file) (htop : (l.prog.main.scope.names.lookup ("super" : Str)).isSome = false)
    (F : ∀ w h, YP w h → ∃ K : PySem.W.Frag, K.In h ∧ SaysM L h K)
    (law : ∀ ns : List Int, ns.length ≤ n → ∃ S, callN (pgOf L) fuel N i0 [.lst (ns.map .int)] [] = .ok (.bl true) S) :
    PySem.W.WalkO q loose XP YP l.row.toRowW d [] (fun f vs => PySem.call f vs) := by
  refine LamX.walk_ofTsE (l := l) (n := n) (k := lev N) (x := x) (CX := fun w => L2.CX l.prog w) hn hn2 hdf hr (fun w mg fa h Y G hmg => ?_) (fun w H s e s' z => ?_)
  · obtain ⟨K, KX, SM⟩ := F w h Y
    have S := SM.d
    have c := SM.ck
    obtain ⟨fd, hfd⟩ := S.defs (d := d0.d) (List.mem_append_left _ (List.mem_map.mpr ⟨d0, List.mem_of_getElem? h0, rfl⟩))
    have st' := (Bool.and_eq_true_iff.mp (show (stE L && stM L) = true from st)).2
    have q := (List.all_eq_true.mp (by simp only [stM, Bool.and_eq_true] at st'; exact st'.1.1.1)) d0 (List.mem_of_getElem? h0)
    simp only [stD, Bool.and_eq_true, decide_eq_true_eq] at q
    have hkw : d0.d.kws K = [] := by unfold He.DefD.kws; rw [List.isEmpty_iff.mp q.1.1.2]; rfl
    have hdv : d0.d.dvs K = [] := by unfold He.DefD.dvs; rw [hdfl]; rfl
    have c' := (Bool.and_eq_true_iff.mp (show (ckE L K && ckM L K) = true from c)).2
    simp only [ckM, Bool.and_eq_true, List.all_eq_true] at c'
    have k := c'.1.1.1.1.1.1.1.1.2 d0 (List.mem_of_getElem? h0)
    simp only [ckD, Bool.and_eq_true, hgl, Bool.not_true, Bool.false_or] at k
    have hfa : fa = He.fAd K d0.d.at_ := by
      have e1 := PySem.W.mg_of KX G (He.eqO_ok k.2)
      rw [hnm, e1] at hmg
      cases hmg; rfl
    subst hfa
    have hfd' : FunD K (fxOf L K i0).name (fxOf L K i0).qual (fxOf L K i0).params (fxOf L K i0).body (fxOf L K i0).scope (fxOf L K i0).dvs [] (adrOf L K i0) fd := by
      rw [fx_at h0, adr_at h0]
      rw [hkw] at hfd
      exact hfd
    refine ⟨K, KX, fd, (tfOf L).map (He.cT K), spN ((ziOf L K).at_ {}) (pgOf L) fuel N i0 d0.f, fun p hp => ?_, fun p hp => ?_, fun p hp => ?_, hb1 K _ fd (by rw [hkw, hdv] at hfd; exact hfd), fun H a ns hl _ hO hS => ?_, fun base hin hns hT => ?_⟩
    · obtain ⟨r, hr', rfl⟩ := List.mem_map.mp hp
      exact SM.empty r hr'
    · obtain ⟨r, hr', rfl⟩ := List.mem_map.mp hp
      exact SM.out r hr'
    · obtain ⟨r, hr', rfl⟩ := List.mem_map.mp hp
      exact PySem.W.codeHd_of_K KX (SM.hd r hr')
    · have hrd : Rd H a (.lst (ns.map V.int)) := by
        rcases hS with h | ⟨o, its, m, h1, h2, _⟩
        · exact h
        · exfalso
          have hm : (a, o) ∈ K := mem_look h1
          have := c'.1.1.1.1.1.1.1.1.1 (a, o) hm
          rw [h2] at this
          simp at this
      obtain ⟨S', hS'⟩ := law ns hl
      have hF : Rd (fun b => if b = a then H a else none) a (.lst (ns.map V.int)) := hrd.imp (fun e => (show (if a = a then H a else none) = _ by rw [if_pos rfl]; exact e)) fun ⟨o, e⟩ => ⟨o, (show (if a = a then H a else none) = _ by rw [if_pos rfl]; exact e)⟩
      have hst : ∀ c : Fc, StoR ((ziOf L K).at_ c) (fun b => if b = a then H a else none) [] [] H := fun c => by
        refine ⟨fun b u e => ?_, rfl, List.nodup_nil, fun k kv b e _ => (by cases e), fun p hp => ?_, fun b ps e => ?_⟩
        · have e : (if b = a then H a else none) = some u := e
          split at e
          · rename_i z; rw [z]; exact e
          · cases e
        · obtain ⟨i, hi, hp⟩ := List.mem_filterMap.mp hp
          cases hd : L.defs[i]? with
          | none => rw [hd] at hp; cases hp
          | some d =>
            rw [hd] at hp
            cases hp
            have hm : d.d.at_ ∈ tfOf L := List.mem_filterMap.mpr ⟨i, hi, by rw [hd]; rfl⟩
            exact ⟨#[], hO _ (List.mem_map.mpr ⟨_, hm, rfl⟩), trivial, fun p cv z => by cases z⟩
        · have e : (if b = a then H a else none) = some (.tbl ps) := e
          split at e
          · rcases hrd with z | ⟨o, z⟩ <;> (rw [z] at e; cases e)
          · cases e
      unfold spN
      rw [hini, hnp]
      cases el : d0.f.lams with
      | nil =>
        refine ⟨rfl, fun b => if b = a then H a else none, [], [], [.lst (ns.map .int)], hst {}, .cons (.lst hF (ints_ok ns)) .nil, ?_⟩
        rw [hS']
        intro b F' ρ' H' e s p
        cases p
        rfl
      | cons a1 l1 =>
        exact ⟨rfl, fun b => if b = a then H a else none, [], [], [.lst (ns.map .int)], hst, fun c => .cons (.lst hF (ints_ok ns)) .nil, true, S', hS', fun H' => rfl⟩
    · have LFx := lf_of (prog := l.prog) (base := base) KX G st c rfl S hb hbx hbk hfile htop SM.ini (fun p hp => hT _ (List.mem_map.mpr ⟨p, hp, rfl⟩))
      have ok := fns_ok (prog := l.prog) (w := w) (base := base) (fuel := fuel) LFx N {} i0 d0.f (by show (L.defs[i0]?).map _ = _; rw [h0]; rfl) fd hfd'
      rw [adr_at h0, fx_at h0] at ok
      have e : (fxD K d0).ps = [x] := hps
      rw [e] at ok
      exact ok
  · obtain ⟨a, B, H', cls, dd, _, _, _, _, _, _, _, z⟩ := z
    exact z
/-- the head's run, told in three parts (each is a run of its own for the kernel: less memory) -/
theorem run_join {β : Type} {o : Option β} {f : β → Bool} {γ : Type} {g : β → γ} {h : β → AlM} {z : γ} {L : Ld} (a : o.map (fun x => (f x, g x, (h x).2)) = some (true, z, (vaM L).2)) (b : o.map (fun x => (h x).1.1) = some (vaM L).1.1) (c : o.map (fun x => (h x).1.2) = some true) :
    o.map (fun x => (f x, g x, h x)) = some (true, z, vaM L) := by
  cases o with
  | none => cases a
  | some x =>
    simp only [Option.map_some, Option.some.injEq, Prod.mk.injEq] at a b c ⊢
    exact ⟨a.1, a.2.1, Prod.ext (Prod.ext b c) a.2.2⟩
open HandSHeadRun PySem.W PySem.Calls in
theorem runEqI_join {r : PySem.W.OpenRow} {q : Program} {n : Nat} {L : Ld} {M : Nat} {loose : List Str} {w : World} {ob : PySem.W.SharedT → AlM}
    (a : (wholeF (fun p => stepQ (denQ tabQ) p w) fenceQ M r.prog).map (fun x => (looksF r.prog x.1.heap x.2.abs, seenQ q loose (importedModules r.prog.main.body) (fun s => xlAt q [] s && recOk r.toRowW.records s) x.2.abs, (ob x.2).2)) = some (true, openGood q loose, (vaM L).2))
    (b : (wholeF (fun p => stepQ (denQ tabQ) p w) fenceQ M r.prog).map (fun x => (ob x.2).1.1) = some (vaM L).1.1)
    (c : (wholeF (fun p => stepQ (denQ tabQ) p w) fenceQ M r.prog).map (fun x => (ob x.2).1.2) = some true) : HandSHeadRun.RunEqI r q (hookM n L) ob M loose w := run_join a b c
/-- what the table's defs show, told in parts -/
theorem obs_join {β : Type} {o : Option β} {K : β → PySem.W.Frag} {l : List He.DefD} (k : Nat) (a : o.map (fun x => l.all fun d => d.ok (K x)) = some true) (b : o.map (fun x => (l.take k).map fun d => He.fnW (K x) d.at_) = some ((l.take k).map He.DefD.val))
    (c : o.map (fun x => (l.drop k).map fun d => He.fnW (K x) d.at_) = some ((l.drop k).map He.DefD.val)) : o.map (fun x => He.obsD [] l (K x)) = some (He.valD l) := by
  cases o with
  | none => cases a
  | some x =>
    simp only [Option.map_some, Option.some.injEq] at a b c ⊢
    have e : ∀ f : He.DefD → He.FnW, l.map f = (l.take k).map f ++ (l.drop k).map f := fun f => by rw [← List.map_append, List.take_append_drop]
    unfold He.obsD He.valD
    rw [e (fun d => He.fnW (K x) d.at_), e He.DefD.val, b, c, a]
    rfl
/-- the engine's own tests, told in parts -/
theorem cks_join {β : Type} {o : Option β} {K : β → PySem.W.Frag} {L : Ld} {t : β → Bool} (a : o.map (fun x => ckE L (K x)) = some true) (b : o.map (fun x => ckM L (K x)) = some true) (c : o.map (fun x => t x) = some true) : o.map (fun x => ckB L (K x) && t x) = some true := by
  cases o with
  | none => cases a
  | some x =>
    simp only [Option.map_some, Option.some.injEq] at a b c ⊢
    unfold ckB
    rw [a, b, c]
    rfl
/-- the objects that are seen from a state -/
def frS (n : Nat) (s : PySem.W.SharedT) : PySem.W.Frag := He.frT (HandSHeadRun.getT s) (asM (HandSHeadRun.getT s) n)
end Mi

set_option Elab.async false
set_option linter.all false
set_option maxRecDepth 100000
set_option maxHeartbeats 0
namespace Mi.Law
open PySem PySem.Spec PyProof.Rows L2
/-! the table of matchroots_k69_whole_products_as_sums -/
def top (i : Nat) : Stmt := PySem.Challenge.pw_matchroots_k69_whole_products_as_sums.main.body.getD i (.Pass ⟨0, 0, 0, 0⟩)
def dd0 : He.DefD := ⟨("law", none), "law", "law", defArgs (top 59), defBody (top 59), defScope (top 59), [], []⟩
def bd0 : Sms := .cons (.asg 1 (.call 1 (.cons (.var 0) .nil))) (.cons (.par 6 false (.call 2 (.cons (.var 1) (.cons (.int 7) .nil))) 7 false (.call 2 (.cons (.var 1) (.cons (.int 7) .nil)))) (.cons (.asg 2 (.call 3 (.cons (.var 6) (.cons (.var 7) .nil)))) (.cons (.par 8 true (.reps (.lst (.cons (.int 0) .nil)) (.bin .add (.bin .add (.var 6) (.var 7)) (.int 1))) 9 false (.int 1)) (.cons (.for_ (.nm 3) (.rng1 (.bin .add (.min2 (.var 6) (.var 7)) (.int 1))) (.cons (.setI 8 (.bin .sub (.bin .add (.var 6) (.var 7)) (.bin .mul (.int 2) (.var 3))) (.bin .mul (.bin .mul (.call 4 (.cons (.var 6) (.cons (.var 3) .nil))) (.call 4 (.cons (.var 7) (.cons (.var 3) .nil)))) (.var 9))) (.cons (.asg 9 (.bin .mul (.var 9) (.bin .add (.var 3) (.int 1)))) .nil))) (.cons (.frz 8) (.cons (.iff (.or (.cons (.not (.isI (.var 2) [.tuple] false)) (.cons (.cmp .ne (.listOf (.ex (.var 2))) (.var 8)) .nil))) (.cons (.ret (.bl false)) .nil) (.nil)) (.cons (.asg 4 (.lsR1 (.bin .add (.bin .add (.var 6) (.var 7)) (.int 1)))) (.cons (.for_ (.tp [10, 11, 12]) (.seq (.ex (.lst (.cons (.tup (.cons (.var 2) (.cons (.bin .mul (.call 7 (.cons (.var 6) .nil)) (.call 7 (.cons (.var 7) .nil))) (.cons (.comp (.call 7 (.cons (.var 3) .nil)) [3] (.nm 3) (.seq (.ex (.var 4))) .no) .nil)))) (.cons (.tup (.cons (.call 5 (.cons (.var 6) (.cons (.var 7) .nil))) (.cons (.bin .mul (.call 8 (.cons (.var 6) .nil)) (.call 8 (.cons (.var 7) .nil))) (.cons (.comp (.call 8 (.cons (.var 3) .nil)) [3] (.nm 3) (.seq (.ex (.var 4))) .no) .nil)))) (.cons (.tup (.cons (.call 6 (.cons (.var 6) (.cons (.var 7) .nil))) (.cons (.bin .mul (.call 9 (.cons (.var 6) .nil)) (.call 9 (.cons (.var 7) .nil))) (.cons (.comp (.call 9 (.cons (.var 3) .nil)) [3] (.nm 3) (.seq (.ex (.var 4))) .no) .nil)))) .nil)))))) (.cons (.iff (.or (.cons (.not (.isI (.var 10) [.tuple] false)) (.cons (.cmp .ne (.len (.ex (.var 10))) (.bin .add (.bin .add (.var 6) (.var 7)) (.int 1))) (.cons (.cmp .lt (.minL (.ex (.var 10))) (.int 0)) .nil)))) (.cons (.ret (.bl false)) .nil) (.nil)) (.cons (.iff (.cmp .ne (.comp (.int 1) [15] (.nm 15) (.seq (.ex (.var 10))) (.yes (.or (.cons (.isI (.var 15) [.bool] false) (.cons (.not (.isI (.var 15) [.int] false)) .nil))))) (.lst (.nil))) (.cons (.ret (.bl false)) .nil) (.nil)) (.cons (.iff (.cmp .ne (.call 13 (.cons (.var 10) (.cons (.var 12) .nil))) (.var 11)) (.cons (.ret (.bl false)) .nil) (.nil)) .nil)))) (.cons (.asgT [13, 14] (.tup (.cons (.call 14 (.cons (.var 1) (.cons (.lst (.cons (.neg (.int 1)) (.cons (.int 7) (.cons (.non) (.cons (.bl true) (.cons (.str [50]) .nil)))))) .nil))) (.cons (.call 14 (.cons (.var 1) (.cons (.lst (.cons (.neg (.int 1)) (.cons (.int 7) (.cons (.non) (.cons (.bl true) (.cons (.str [50]) .nil)))))) .nil))) .nil)))) (.cons (.for_ (.nm 5) (.seq (.ex (.lst (.cons (.lamv 2) (.cons (.lamv 1) (.cons (.lamv 0) .nil)))))) (.cons (.iff (.cmp .ne (.actc 0 (.var 5)) (.tup (.cons (.str [110, 117, 109, 98, 101, 114]) (.cons (.str [109]) (.cons (.repr (.var 13)) .nil))))) (.cons (.ret (.bl false)) .nil) (.nil)) .nil)) (.cons (.for_ (.nm 5) (.seq (.ex (.lst (.cons (.lamv 5) (.cons (.lamv 4) (.cons (.lamv 3) .nil)))))) (.cons (.iff (.cmp .ne (.actc 0 (.var 5)) (.tup (.cons (.str [110, 117, 109, 98, 101, 114]) (.cons (.str [110]) (.cons (.repr (.var 14)) .nil))))) (.cons (.ret (.bl false)) .nil) (.nil)) .nil)) (.cons (.ret (.bl true)) .nil))))))))))))
def ff0 : Fd := ⟨1, 16, [], none, bd0, [.call 6 (.cons (.var 13) (.cons (.var 14) .nil)), .call 5 (.cons (.var 13) (.cons (.var 14) .nil)), .call 3 (.cons (.var 13) (.cons (.var 14) .nil)), .call 6 (.cons (.int 6) (.cons (.var 14) .nil)), .call 5 (.cons (.int 6) (.cons (.var 14) .nil)), .call 3 (.cons (.int 6) (.cons (.var 14) .nil))]⟩
def fd0 : Dd := ⟨dd0, ff0, ["script", "pen", "told", "k", "sizes", "call", "m", "n", "due", "times", "numbers", "product", "polys", "bad", "odd", "item"], ["script"], [], true⟩
def dd1 : He.DefD := ⟨("_law_pen", none), "_law_pen", "_law_pen", defArgs (top 53), defBody (top 53), defScope (top 53), [], []⟩
def bd1 : Sms := .cons (.asg 1 (.int 0)) (.cons (.for_ (.nm 2) (.seq (.ex (.var 0))) (.cons (.asg 1 (.bin .mod (.intOf (.bin .add (.bin .mul (.var 1) (.int 47)) (.var 2))) (.int 1000000007))) .nil)) (.cons (.ret (.disp [[99, 101, 108, 108, 115], [97, 116], [100, 105, 103, 105, 116, 115], [99, 111, 117, 110, 116], [102, 111, 108, 100]] (.cons (.listOf (.ex (.var 0))) (.cons (.int 0) (.cons (.int 0) (.cons (.int 0) (.cons (.var 1) .nil))))))) .nil))
def ff1 : Fd := ⟨1, 3, [], none, bd1, []⟩
def fd1 : Dd := ⟨dd1, ff1, ["script", "fold", "cell"], ["script"], [1], true⟩
def dd2 : He.DefD := ⟨("_law_draw", none), "_law_draw", "_law_draw", defArgs (top 54), defBody (top 54), defScope (top 54), [], []⟩
def bd2 : Sms := .cons (.dset 0 [99, 111, 117, 110, 116] (.bin .add (.dget (.var 0) [99, 111, 117, 110, 116]) (.int 1))) (.cons (.iff (.and (.cons (.cmp .eq (.dget (.var 0) [100, 105, 103, 105, 116, 115]) (.int 0)) (.cons (.cmp .lt (.dget (.var 0) [97, 116]) (.len (.ex (.dget (.var 0) [99, 101, 108, 108, 115])))) .nil))) (.cons (.asg 3 (.idx (.ex (.dget (.var 0) [99, 101, 108, 108, 115])) (.dget (.var 0) [97, 116]))) (.cons (.dset 0 [97, 116] (.bin .add (.dget (.var 0) [97, 116]) (.int 1))) (.cons (.iff (.cmp .ge (.var 3) (.bin .pow (.int 10) (.int 18))) (.cons (.dset 0 [100, 105, 103, 105, 116, 115] (.bin .sub (.var 3) (.bin .pow (.int 10) (.int 18)))) .nil) (.cons (.dset 0 [102, 111, 108, 100] (.bin .mod (.intOf (.bin .add (.bin .mul (.dget (.var 0) [102, 111, 108, 100]) (.int 69069)) (.var 3))) (.int 2147483587))) .nil)) .nil))) (.nil)) (.cons (.iff (.cmp .gt (.dget (.var 0) [100, 105, 103, 105, 116, 115]) (.int 0)) (.cons (.asg 4 (.bin .mod (.intOf (.dget (.var 0) [100, 105, 103, 105, 116, 115])) (.var 1))) (.cons (.dset 0 [100, 105, 103, 105, 116, 115] (.bin .fdiv (.dget (.var 0) [100, 105, 103, 105, 116, 115]) (.var 1))) (.cons (.ret (.var 4)) .nil))) (.nil)) (.cons (.asg 2 (.bin .add (.bin .add (.dget (.var 0) [102, 111, 108, 100]) (.bin .mul (.dget (.var 0) [99, 111, 117, 110, 116]) (.int 7907))) (.int 37))) (.cons (.ret (.bin .mod (.bin .fdiv (.intOf (.bin .mod (.bin .pow (.var 2) (.int 17)) (.int 2305843009213693951))) (.int 128)) (.var 1))) .nil))))
def ff2 : Fd := ⟨2, 5, [], none, bd2, []⟩
def fd2 : Dd := ⟨dd2, ff2, ["pen", "many", "mixed", "cell", "digit"], ["pen", "many"], [2], true⟩
def dd3 : He.DefD := ⟨("hermite_parts", none), "hermite_parts", "hermite_parts", defArgs (top 49), defBody (top 49), defScope (top 49), [], []⟩
def bd3 : Sms := .cons (.exp (.call 15 (.cons (.var 0) (.cons (.var 1) .nil)))) (.cons (.ret (.call 41 (.cons (.bin .mul (.call 42 (.cons (.var 0) .nil)) (.call 42 (.cons (.var 1) .nil))) (.cons (.comp (.call 42 (.cons (.var 2) .nil)) [2] (.nm 2) (.rng1 (.bin .add (.bin .add (.var 0) (.var 1)) (.int 1))) .no) .nil)))) .nil)
def ff3 : Fd := ⟨2, 3, [], none, bd3, []⟩
def fd3 : Dd := ⟨dd3, ff3, ["m", "n", "k"], ["m", "n"], [2], true⟩
def dd4 : He.DefD := ⟨("_law_choose", none), "_law_choose", "_law_choose", defArgs (top 57), defBody (top 57), defScope (top 57), [], []⟩
def bd4 : Sms := .cons (.asg 2 (.int 1)) (.cons (.for_ (.nm 3) (.rng1 (.var 1)) (.cons (.asg 2 (.bin .fdiv (.bin .mul (.var 2) (.bin .sub (.var 0) (.var 3))) (.bin .add (.var 3) (.int 1)))) .nil)) (.cons (.ret (.ife (.cmp .le (.var 1) (.var 0)) (.var 2) (.int 0))) .nil))
def ff4 : Fd := ⟨2, 4, [], none, bd4, []⟩
def fd4 : Dd := ⟨dd4, ff4, ["n", "k", "found", "i"], ["n", "k"], [2], true⟩
def dd5 : He.DefD := ⟨("laguerre_parts", none), "laguerre_parts", "laguerre_parts", defArgs (top 50), defBody (top 50), defScope (top 50), [], []⟩
def bd5 : Sms := .cons (.exp (.call 15 (.cons (.var 0) (.cons (.var 1) .nil)))) (.cons (.ret (.call 41 (.cons (.bin .mul (.call 43 (.cons (.var 0) .nil)) (.call 43 (.cons (.var 1) .nil))) (.cons (.comp (.call 43 (.cons (.var 2) .nil)) [2] (.nm 2) (.rng1 (.bin .add (.bin .add (.var 0) (.var 1)) (.int 1))) .no) .nil)))) .nil)
def ff5 : Fd := ⟨2, 3, [], none, bd5, []⟩
def fd5 : Dd := ⟨dd5, ff5, ["m", "n", "k"], ["m", "n"], [2], true⟩
def dd6 : He.DefD := ⟨("charlier_parts", none), "charlier_parts", "charlier_parts", defArgs (top 51), defBody (top 51), defScope (top 51), [], []⟩
def bd6 : Sms := .cons (.exp (.call 15 (.cons (.var 0) (.cons (.var 1) .nil)))) (.cons (.ret (.call 41 (.cons (.bin .mul (.call 10 (.cons (.var 0) .nil)) (.call 10 (.cons (.var 1) .nil))) (.cons (.comp (.call 10 (.cons (.var 2) .nil)) [2] (.nm 2) (.rng1 (.bin .add (.bin .add (.var 0) (.var 1)) (.int 1))) .no) .nil)))) .nil)
def ff6 : Fd := ⟨2, 3, [], none, bd6, []⟩
def fd6 : Dd := ⟨dd6, ff6, ["m", "n", "k"], ["m", "n"], [2], true⟩
def dd7 : He.DefD := ⟨("hermite", none), "hermite", "hermite", defArgs (top 42), defBody (top 42), defScope (top 42), [], []⟩
def bd7 : Sms := .cons (.exp (.call 44 (.cons (.var 0) .nil))) (.cons (.ret (.call 42 (.cons (.var 0) .nil))) .nil)
def ff7 : Fd := ⟨1, 1, [], none, bd7, []⟩
def fd7 : Dd := ⟨dd7, ff7, ["n"], ["n"], [1], true⟩
def dd8 : He.DefD := ⟨("laguerre", none), "laguerre", "laguerre", defArgs (top 43), defBody (top 43), defScope (top 43), [], []⟩
def bd8 : Sms := .cons (.exp (.call 44 (.cons (.var 0) .nil))) (.cons (.ret (.call 43 (.cons (.var 0) .nil))) .nil)
def ff8 : Fd := ⟨1, 1, [], none, bd8, []⟩
def fd8 : Dd := ⟨dd8, ff8, ["n"], ["n"], [1], true⟩
def dd9 : He.DefD := ⟨("charlier", none), "charlier", "charlier", defArgs (top 44), defBody (top 44), defScope (top 44), [], []⟩
def bd9 : Sms := .cons (.exp (.call 44 (.cons (.var 0) .nil))) (.cons (.ret (.call 10 (.cons (.var 0) .nil))) .nil)
def ff9 : Fd := ⟨1, 1, [], none, bd9, []⟩
def fd9 : Dd := ⟨dd9, ff9, ["n"], ["n"], [1], true⟩
def dd10 : He.DefD := ⟨("charlier_of", none), "charlier_of", "charlier_of", defArgs (top 40), defBody (top 40), defScope (top 40), [], []⟩
def bd10 : Sms := .cons (.own 1 (.lst (.cons (.new 0 (.cons (.tup (.cons (.int 1) .nil)) .nil)) (.cons (.new 0 (.cons (.tup (.cons (.neg (.int 1)) (.cons (.int 1) .nil))) .nil)) .nil)))) (.cons (.for_ (.nm 2) (.rng2 (.int 1) (.var 0)) (.cons (.app 1 (.bin .sub (.bin .mul (.new 0 (.cons (.tup (.cons (.bin .sub (.neg (.var 2)) (.int 1)) (.cons (.int 1) .nil))) .nil)) (.idx (.own 1) (.var 2))) (.bin .mul (.idx (.own 1) (.bin .sub (.var 2) (.int 1))) (.var 2)))) .nil)) (.cons (.ret (.idx (.own 1) (.var 0))) .nil))
def ff10 : Fd := ⟨1, 3, [], none, bd10, []⟩
def fd10 : Dd := ⟨dd10, ff10, ["n", "found", "k"], ["n"], [1], true⟩
def dd11 : He.DefD := ⟨("is_row", none), "is_row", "is_row", defArgs (top 17), defBody (top 17), defScope (top 17), [], []⟩
def bd11 : Sms := .cons (.ret (.isI (.var 0) [.list, .tuple] true)) .nil
def ff11 : Fd := ⟨1, 1, [], none, bd11, []⟩
def fd11 : Dd := ⟨dd11, ff11, ["value"], ["value"], [1], true⟩
def dd12 : He.DefD := ⟨("is_integer", none), "is_integer", "is_integer", defArgs (top 15), defBody (top 15), defScope (top 15), [], []⟩
def bd12 : Sms := .cons (.ret (.and (.cons (.isI (.var 0) [.int] false) (.cons (.not (.isI (.var 0) [.bool] false)) .nil)))) .nil
def ff12 : Fd := ⟨1, 1, [], none, bd12, []⟩
def fd12 : Dd := ⟨dd12, ff12, ["value"], ["value"], [1], true⟩
def dd13 : He.DefD := ⟨("_law_whole", none), "_law_whole", "_law_whole", defArgs (top 58), defBody (top 58), defScope (top 58), [], []⟩
def bd13 : Sms := .cons (.asg 2 (.new 0 (.nil))) (.cons (.for_ (.tp [3, 4]) (.zip (.ex (.var 0)) (.ex (.var 1))) (.cons (.asg 2 (.bin .add (.var 2) (.bin .mul (.var 4) (.var 3)))) .nil)) (.cons (.ret (.var 2)) .nil))
def ff13 : Fd := ⟨2, 5, [], none, bd13, []⟩
def fd13 : Dd := ⟨dd13, ff13, ["numbers", "polys", "total", "number", "poly"], ["numbers", "polys"], [2], true⟩
def dd14 : He.DefD := ⟨("_law_pick", none), "_law_pick", "_law_pick", defArgs (top 55), defBody (top 55), defScope (top 55), [], []⟩
def bd14 : Sms := .cons (.ret (.idx (.ex (.var 1)) (.call 2 (.cons (.var 0) (.cons (.len (.ex (.var 1))) .nil))))) .nil
def ff14 : Fd := ⟨2, 2, [], none, bd14, []⟩
def fd14 : Dd := ⟨dd14, ff14, ["pen", "some"], ["pen", "some"], [2], true⟩
def dd15 : He.DefD := ⟨("need_degrees", none), "need_degrees", "need_degrees", defArgs (top 47), defBody (top 47), defScope (top 47), [], []⟩
def bd15 : Sms := .cons (.for_ (.tp [2, 3]) (.seq (.ex (.tup (.cons (.tup (.cons (.str [109]) (.cons (.var 0) .nil))) (.cons (.tup (.cons (.str [110]) (.cons (.var 1) .nil))) .nil))))) (.cons (.iff (.or (.cons (.not (.call 12 (.cons (.var 3) .nil))) (.cons (.not (.chn .le .le (.int 0) (.var 3) (.con 0))) .nil))) (.cons (.raise 0 (.cons (.var 2) (.cons (.var 3) .nil))) .nil) (.nil)) .nil)) .nil
def ff15 : Fd := ⟨2, 4, [], none, bd15, []⟩
def fd15 : Dd := ⟨dd15, ff15, ["m", "n", "what", "value"], ["m", "n"], [2], true⟩
def dd16 : He.DefD := ⟨("without_zeros", none), "without_zeros", "without_zeros", defArgs (top 27), defBody (top 27), defScope (top 27), [], []⟩
def bd16 : Sms := .cons (.asg 1 (.len (.ex (.var 0)))) (.cons (.whl (.and (.cons (.cmp .gt (.var 1) (.int 0)) (.cons (.cmp .eq (.fld (.idx (.ex (.var 0)) (.bin .sub (.var 1) (.int 1))) 3) (.int 0)) .nil))) (.cons (.asg 1 (.bin .sub (.var 1) (.int 1))) .nil)) (.cons (.ret (.tupOf (.ex (.slc (.ex (.var 0)) .no (.yes (.var 1)))))) .nil))
def ff16 : Fd := ⟨1, 2, [], none, bd16, []⟩
def fd16 : Dd := ⟨dd16, ff16, ["ratios", "many"], ["ratios"], [1], true⟩
def dd17 : He.DefD := ⟨("need_numbers", none), "need_numbers", "need_numbers", defArgs (top 25), defBody (top 25), defScope (top 25), [], []⟩
def bd17 : Sms := .cons (.iff (.not (.call 11 (.cons (.var 0) .nil))) (.cons (.never) .nil) (.nil)) (.cons (.ret (.comp (.call 23 (.cons (.var 1) .nil)) [1] (.nm 1) (.seq (.ex (.var 0))) .no)) .nil)
def ff17 : Fd := ⟨1, 2, [], none, bd17, []⟩
def fd17 : Dd := ⟨dd17, ff17, ["numbers", "item"], ["numbers"], [1], true⟩
def dd18 : He.DefD := ⟨("is_number", none), "is_number", "is_number", defArgs (top 22), defBody (top 22), defScope (top 22), [], []⟩
def bd18 : Sms := .cons (.ret (.or (.cons (.call 12 (.cons (.var 0) .nil)) (.cons (.isI (.var 0) [.cls 1] false) .nil)))) .nil
def ff18 : Fd := ⟨1, 1, [], none, bd18, []⟩
def fd18 : Dd := ⟨dd18, ff18, ["value"], ["value"], [1], true⟩
def dd19 : He.DefD := ⟨("numbers_sum", none), "numbers_sum", "numbers_sum", defArgs (top 29), defBody (top 29), defScope (top 29), [], []⟩
def bd19 : Sms := .cons (.ret (.comp (.bin .add (.call 24 (.cons (.var 0) (.cons (.var 2) .nil))) (.call 24 (.cons (.var 1) (.cons (.var 2) .nil)))) [2] (.nm 2) (.rng1 (.max2 (.len (.ex (.var 0))) (.len (.ex (.var 1))))) .no)) .nil
def ff19 : Fd := ⟨2, 3, [], none, bd19, []⟩
def fd19 : Dd := ⟨dd19, ff19, ["one", "other", "k"], ["one", "other"], [2], true⟩
def dd20 : He.DefD := ⟨("plain_ratio", none), "plain_ratio", "plain_ratio", defArgs (top 23), defBody (top 23), defScope (top 23), [], []⟩
def bd20 : Sms := .cons (.ret (.ife (.call 12 (.cons (.var 0) .nil)) (.new 1 (.cons (.var 0) .nil)) (.var 0))) .nil
def ff20 : Fd := ⟨1, 1, [], none, bd20, []⟩
def fd20 : Dd := ⟨dd20, ff20, ["value"], ["value"], [1], true⟩
def dd21 : He.DefD := ⟨("numbers_less", none), "numbers_less", "numbers_less", defArgs (top 30), defBody (top 30), defScope (top 30), [], []⟩
def bd21 : Sms := .cons (.ret (.comp (.bin .sub (.call 24 (.cons (.var 0) (.cons (.var 2) .nil))) (.call 24 (.cons (.var 1) (.cons (.var 2) .nil)))) [2] (.nm 2) (.rng1 (.max2 (.len (.ex (.var 0))) (.len (.ex (.var 1))))) .no)) .nil
def ff21 : Fd := ⟨2, 3, [], none, bd21, []⟩
def fd21 : Dd := ⟨dd21, ff21, ["one", "other", "k"], ["one", "other"], [2], true⟩
def dd22 : He.DefD := ⟨("numbers_times", none), "numbers_times", "numbers_times", defArgs (top 31), defBody (top 31), defScope (top 31), [], []⟩
def bd22 : Sms := .cons (.asg 2 (.ife (.and (.cons (.cmp .gt (.len (.ex (.var 0))) (.int 0)) (.cons (.cmp .gt (.len (.ex (.var 1))) (.int 0)) .nil))) (.bin .sub (.bin .add (.len (.ex (.var 0))) (.len (.ex (.var 1)))) (.int 1)) (.int 0))) (.cons (.ret (.comp (.sum (.ex (.comp (.bin .mul (.idx (.ex (.var 0)) (.var 4)) (.idx (.ex (.var 1)) (.bin .sub (.var 3) (.var 4)))) [4] (.nm 4) (.rng1 (.len (.ex (.var 0)))) (.yes (.chn .le .lt (.int 0) (.bin .sub (.var 3) (.var 4)) (.len (.ex (.var 1)))))))) [3] (.nm 3) (.rng1 (.var 2)) .no)) .nil)
def ff22 : Fd := ⟨2, 5, [], none, bd22, []⟩
def fd22 : Dd := ⟨dd22, ff22, ["one", "other", "many", "k", "i"], ["one", "other"], [2], true⟩
def dd23 : He.DefD := ⟨("ratio_of", none), "ratio_of", "ratio_of", defArgs (top 24), defBody (top 24), defScope (top 24), [], []⟩
def bd23 : Sms := .cons (.iff (.not (.call 18 (.cons (.var 0) .nil))) (.cons (.never) .nil) (.nil)) (.cons (.ret (.call 20 (.cons (.var 0) .nil))) .nil)
def ff23 : Fd := ⟨1, 1, [], none, bd23, []⟩
def fd23 : Dd := ⟨dd23, ff23, ["number"], ["number"], [1], true⟩
def dd24 : He.DefD := ⟨("part_at", none), "part_at", "part_at", defArgs (top 28), defBody (top 28), defScope (top 28), [], []⟩
def bd24 : Sms := .cons (.ret (.ife (.cmp .lt (.var 1) (.len (.ex (.var 0)))) (.idx (.ex (.var 0)) (.var 1)) (.new 1 (.cons (.int 0) .nil)))) .nil
def ff24 : Fd := ⟨2, 2, [], none, bd24, []⟩
def fd24 : Dd := ⟨dd24, ff24, ["ratios", "k"], ["ratios", "k"], [2], true⟩
def dd25 : He.DefD := ⟨("Poly", some "__init__"), "__init__", "Poly.__init__", defArgs (inClass (top 32) 0), defBody (inClass (top 32) 0), defScope (inClass (top 32) 0), [.adr (He.dflAt ("Poly", some "__init__") 0)], []⟩
def bd25 : Sms := .cons (.sfl 0 0 (.call 16 (.cons (.call 17 (.cons (.var 1) .nil)) .nil))) (.cons (.sfl 0 1 (.bin .sub (.len (.ex (.sfl 0 0))) (.int 1))) (.cons (.sfl 0 2 (.ife (.cmp .gt (.len (.ex (.sfl 0 0))) (.int 0)) (.idx (.ex (.sfl 0 0)) (.neg (.int 1))) (.non))) .nil))
def ff25 : Fd := ⟨2, 2, [.tup []], some 0, bd25, []⟩
def fd25 : Dd := ⟨dd25, ff25, ["self", "numbers"], ["self", "numbers"], [1, 2], false⟩
def dd26 : He.DefD := ⟨("Poly", some "__add__"), "__add__", "Poly.__add__", defArgs (inClass (top 32) 3), defBody (inClass (top 32) 3), defScope (inClass (top 32) 3), [], []⟩
def bd26 : Sms := .cons (.iff (.call 18 (.cons (.var 1) .nil)) (.cons (.ret (.new 0 (.cons (.call 19 (.cons (.fld (.var 0) 0) (.cons (.tup (.cons (.call 20 (.cons (.var 1) .nil)) .nil)) .nil))) .nil))) .nil) (.nil)) (.cons (.iff (.not (.isI (.var 1) [.cls 0] false)) (.cons (.never) .nil) (.nil)) (.cons (.ret (.new 0 (.cons (.call 19 (.cons (.fld (.var 0) 0) (.cons (.fld (.var 1) 0) .nil))) .nil))) .nil))
def ff26 : Fd := ⟨2, 2, [], none, bd26, []⟩
def fd26 : Dd := ⟨dd26, ff26, ["self", "other"], ["self", "other"], [2], false⟩
def dd27 : He.DefD := ⟨("Poly", some "__sub__"), "__sub__", "Poly.__sub__", defArgs (inClass (top 32) 5), defBody (inClass (top 32) 5), defScope (inClass (top 32) 5), [], []⟩
def bd27 : Sms := .cons (.iff (.call 18 (.cons (.var 1) .nil)) (.cons (.ret (.new 0 (.cons (.call 21 (.cons (.fld (.var 0) 0) (.cons (.tup (.cons (.call 20 (.cons (.var 1) .nil)) .nil)) .nil))) .nil))) .nil) (.nil)) (.cons (.iff (.not (.isI (.var 1) [.cls 0] false)) (.cons (.never) .nil) (.nil)) (.cons (.ret (.new 0 (.cons (.call 21 (.cons (.fld (.var 0) 0) (.cons (.fld (.var 1) 0) .nil))) .nil))) .nil))
def ff27 : Fd := ⟨2, 2, [], none, bd27, []⟩
def fd27 : Dd := ⟨dd27, ff27, ["self", "other"], ["self", "other"], [2], false⟩
def dd28 : He.DefD := ⟨("Poly", some "__mul__"), "__mul__", "Poly.__mul__", defArgs (inClass (top 32) 7), defBody (inClass (top 32) 7), defScope (inClass (top 32) 7), [], []⟩
def bd28 : Sms := .cons (.iff (.call 18 (.cons (.var 1) .nil)) (.cons (.ret (.new 0 (.cons (.comp (.bin .mul (.var 2) (.var 1)) [2] (.nm 2) (.seq (.ex (.fld (.var 0) 0))) .no) .nil))) .nil) (.nil)) (.cons (.iff (.not (.isI (.var 1) [.cls 0] false)) (.cons (.never) .nil) (.nil)) (.cons (.ret (.new 0 (.cons (.call 22 (.cons (.fld (.var 0) 0) (.cons (.fld (.var 1) 0) .nil))) .nil))) .nil))
def ff28 : Fd := ⟨2, 3, [], none, bd28, []⟩
def fd28 : Dd := ⟨dd28, ff28, ["self", "other", "item"], ["self", "other"], [2], false⟩
def dd29 : He.DefD := ⟨("Poly", some "__radd__"), "__radd__", "Poly.__radd__", defArgs (inClass (top 32) 4), defBody (inClass (top 32) 4), defScope (inClass (top 32) 4), [], []⟩
def bd29 : Sms := .cons (.iff (.not (.call 18 (.cons (.var 1) .nil))) (.cons (.never) .nil) (.nil)) (.cons (.ret (.new 0 (.cons (.call 19 (.cons (.fld (.var 0) 0) (.cons (.tup (.cons (.call 20 (.cons (.var 1) .nil)) .nil)) .nil))) .nil))) .nil)
def ff29 : Fd := ⟨2, 2, [], none, bd29, []⟩
def fd29 : Dd := ⟨dd29, ff29, ["self", "other"], ["self", "other"], [2], false⟩
def dd30 : He.DefD := ⟨("Poly", some "__rsub__"), "__rsub__", "Poly.__rsub__", defArgs (inClass (top 32) 6), defBody (inClass (top 32) 6), defScope (inClass (top 32) 6), [], []⟩
def bd30 : Sms := .cons (.iff (.not (.call 18 (.cons (.var 1) .nil))) (.cons (.never) .nil) (.nil)) (.cons (.ret (.new 0 (.cons (.call 21 (.cons (.tup (.cons (.call 20 (.cons (.var 1) .nil)) .nil)) (.cons (.fld (.var 0) 0) .nil))) .nil))) .nil)
def ff30 : Fd := ⟨2, 2, [], none, bd30, []⟩
def fd30 : Dd := ⟨dd30, ff30, ["self", "other"], ["self", "other"], [2], false⟩
def dd31 : He.DefD := ⟨("Poly", some "__rmul__"), "__rmul__", "Poly.__rmul__", defArgs (inClass (top 32) 8), defBody (inClass (top 32) 8), defScope (inClass (top 32) 8), [], []⟩
def bd31 : Sms := .cons (.iff (.not (.call 18 (.cons (.var 1) .nil))) (.cons (.never) .nil) (.nil)) (.cons (.ret (.new 0 (.cons (.comp (.bin .mul (.var 2) (.var 1)) [2] (.nm 2) (.seq (.ex (.fld (.var 0) 0))) .no) .nil))) .nil)
def ff31 : Fd := ⟨2, 3, [], none, bd31, []⟩
def fd31 : Dd := ⟨dd31, ff31, ["self", "other", "item"], ["self", "other"], [2], false⟩
def dd32 : He.DefD := ⟨("Poly", some "__neg__"), "__neg__", "Poly.__neg__", defArgs (inClass (top 32) 2), defBody (inClass (top 32) 2), defScope (inClass (top 32) 2), [], []⟩
def bd32 : Sms := .cons (.ret (.new 0 (.cons (.comp (.neg (.var 1)) [1] (.nm 1) (.seq (.ex (.fld (.var 0) 0))) .no) .nil))) .nil
def ff32 : Fd := ⟨1, 2, [], none, bd32, []⟩
def fd32 : Dd := ⟨dd32, ff32, ["self", "item"], ["self"], [1], false⟩
def dd33 : He.DefD := ⟨("Ratio", some "__init__"), "__init__", "Ratio.__init__", defArgs (inClass (top 20) 0), defBody (inClass (top 20) 0), defScope (inClass (top 20) 0), [.int 1], []⟩
def bd33 : Sms := .cons (.iff (.not (.call 12 (.cons (.var 1) .nil))) (.cons (.raise 0 (.cons (.str [116, 111, 112]) (.cons (.var 1) .nil))) .nil) (.nil)) (.cons (.iff (.or (.cons (.not (.call 12 (.cons (.var 2) .nil))) (.cons (.cmp .eq (.var 2) (.int 0)) .nil))) (.cons (.raise 0 (.cons (.str [98, 111, 116, 116, 111, 109]) (.cons (.var 2) .nil))) .nil) (.nil)) (.cons (.asg 3 (.ife (.cmp .gt (.var 2) (.int 0)) (.gcd (.var 1) (.var 2)) (.neg (.gcd (.var 1) (.var 2))))) (.cons (.sfl 0 3 (.bin .fdiv (.var 1) (.var 3))) (.cons (.sfl 0 4 (.bin .fdiv (.var 2) (.var 3))) (.cons (.sfl 0 5 (.bin .sub (.cmp .gt (.sfl 0 3) (.int 0)) (.cmp .lt (.sfl 0 3) (.int 0)))) (.cons (.sfl 0 6 (.cmp .eq (.sfl 0 4) (.int 1))) .nil))))))
def ff33 : Fd := ⟨3, 4, [.int 1], some 1, bd33, []⟩
def fd33 : Dd := ⟨dd33, ff33, ["self", "top", "bottom", "shared"], ["self", "top", "bottom"], [2, 3], false⟩
def dd34 : He.DefD := ⟨("Ratio", some "__add__"), "__add__", "Ratio.__add__", defArgs (inClass (top 20) 4), defBody (inClass (top 20) 4), defScope (inClass (top 20) 4), [], []⟩
def bd34 : Sms := .cons (.iff (.call 12 (.cons (.var 1) .nil)) (.cons (.ret (.new 1 (.cons (.bin .add (.fld (.var 0) 3) (.bin .mul (.var 1) (.fld (.var 0) 4))) (.cons (.fld (.var 0) 4) .nil)))) .nil) (.nil)) (.cons (.iff (.not (.isI (.var 1) [.cls 1] false)) (.cons (.never) .nil) (.nil)) (.cons (.ret (.new 1 (.cons (.bin .add (.bin .mul (.fld (.var 0) 3) (.fld (.var 1) 4)) (.bin .mul (.fld (.var 1) 3) (.fld (.var 0) 4))) (.cons (.bin .mul (.fld (.var 0) 4) (.fld (.var 1) 4)) .nil)))) .nil))
def ff34 : Fd := ⟨2, 2, [], none, bd34, []⟩
def fd34 : Dd := ⟨dd34, ff34, ["self", "other"], ["self", "other"], [2], false⟩
def dd35 : He.DefD := ⟨("Ratio", some "__sub__"), "__sub__", "Ratio.__sub__", defArgs (inClass (top 20) 6), defBody (inClass (top 20) 6), defScope (inClass (top 20) 6), [], []⟩
def bd35 : Sms := .cons (.iff (.call 12 (.cons (.var 1) .nil)) (.cons (.ret (.new 1 (.cons (.bin .sub (.fld (.var 0) 3) (.bin .mul (.var 1) (.fld (.var 0) 4))) (.cons (.fld (.var 0) 4) .nil)))) .nil) (.nil)) (.cons (.iff (.not (.isI (.var 1) [.cls 1] false)) (.cons (.never) .nil) (.nil)) (.cons (.ret (.new 1 (.cons (.bin .sub (.bin .mul (.fld (.var 0) 3) (.fld (.var 1) 4)) (.bin .mul (.fld (.var 1) 3) (.fld (.var 0) 4))) (.cons (.bin .mul (.fld (.var 0) 4) (.fld (.var 1) 4)) .nil)))) .nil))
def ff35 : Fd := ⟨2, 2, [], none, bd35, []⟩
def fd35 : Dd := ⟨dd35, ff35, ["self", "other"], ["self", "other"], [2], false⟩
def dd36 : He.DefD := ⟨("Ratio", some "__mul__"), "__mul__", "Ratio.__mul__", defArgs (inClass (top 20) 8), defBody (inClass (top 20) 8), defScope (inClass (top 20) 8), [], []⟩
def bd36 : Sms := .cons (.iff (.call 12 (.cons (.var 1) .nil)) (.cons (.ret (.new 1 (.cons (.bin .mul (.fld (.var 0) 3) (.var 1)) (.cons (.fld (.var 0) 4) .nil)))) .nil) (.nil)) (.cons (.iff (.not (.isI (.var 1) [.cls 1] false)) (.cons (.never) .nil) (.nil)) (.cons (.ret (.new 1 (.cons (.bin .mul (.fld (.var 0) 3) (.fld (.var 1) 3)) (.cons (.bin .mul (.fld (.var 0) 4) (.fld (.var 1) 4)) .nil)))) .nil))
def ff36 : Fd := ⟨2, 2, [], none, bd36, []⟩
def fd36 : Dd := ⟨dd36, ff36, ["self", "other"], ["self", "other"], [2], false⟩
def dd37 : He.DefD := ⟨("Ratio", some "__radd__"), "__radd__", "Ratio.__radd__", defArgs (inClass (top 20) 5), defBody (inClass (top 20) 5), defScope (inClass (top 20) 5), [], []⟩
def bd37 : Sms := .cons (.iff (.not (.call 12 (.cons (.var 1) .nil))) (.cons (.never) .nil) (.nil)) (.cons (.ret (.new 1 (.cons (.bin .add (.fld (.var 0) 3) (.bin .mul (.var 1) (.fld (.var 0) 4))) (.cons (.fld (.var 0) 4) .nil)))) .nil)
def ff37 : Fd := ⟨2, 2, [], none, bd37, []⟩
def fd37 : Dd := ⟨dd37, ff37, ["self", "other"], ["self", "other"], [2], false⟩
def dd38 : He.DefD := ⟨("Ratio", some "__rsub__"), "__rsub__", "Ratio.__rsub__", defArgs (inClass (top 20) 7), defBody (inClass (top 20) 7), defScope (inClass (top 20) 7), [], []⟩
def bd38 : Sms := .cons (.iff (.not (.call 12 (.cons (.var 1) .nil))) (.cons (.never) .nil) (.nil)) (.cons (.ret (.new 1 (.cons (.bin .sub (.bin .mul (.var 1) (.fld (.var 0) 4)) (.fld (.var 0) 3)) (.cons (.fld (.var 0) 4) .nil)))) .nil)
def ff38 : Fd := ⟨2, 2, [], none, bd38, []⟩
def fd38 : Dd := ⟨dd38, ff38, ["self", "other"], ["self", "other"], [2], false⟩
def dd39 : He.DefD := ⟨("Ratio", some "__rmul__"), "__rmul__", "Ratio.__rmul__", defArgs (inClass (top 20) 9), defBody (inClass (top 20) 9), defScope (inClass (top 20) 9), [], []⟩
def bd39 : Sms := .cons (.iff (.not (.call 12 (.cons (.var 1) .nil))) (.cons (.never) .nil) (.nil)) (.cons (.ret (.new 1 (.cons (.bin .mul (.fld (.var 0) 3) (.var 1)) (.cons (.fld (.var 0) 4) .nil)))) .nil)
def ff39 : Fd := ⟨2, 2, [], none, bd39, []⟩
def fd39 : Dd := ⟨dd39, ff39, ["self", "other"], ["self", "other"], [2], false⟩
def dd40 : He.DefD := ⟨("Ratio", some "__neg__"), "__neg__", "Ratio.__neg__", defArgs (inClass (top 20) 3), defBody (inClass (top 20) 3), defScope (inClass (top 20) 3), [], []⟩
def bd40 : Sms := .cons (.ret (.new 1 (.cons (.neg (.fld (.var 0) 3)) (.cons (.fld (.var 0) 4) .nil)))) .nil
def ff40 : Fd := ⟨1, 1, [], none, bd40, []⟩
def fd40 : Dd := ⟨dd40, ff40, ["self"], ["self"], [1], false⟩
def dd41 : He.DefD := ⟨("parts_by", none), "parts_by", "parts_by", defArgs (top 48), defBody (top 48), defScope (top 48), [], []⟩
def bd41 : Sms := .cons (.par 2 true (.reps (.lst (.cons (.int 0) .nil)) (.len (.ex (.var 1)))) 3 false (.var 0)) (.cons (.whl (.cmp .ge (.fld (.var 3) 1) (.int 0)) (.cons (.setI 2 (.fld (.var 3) 1) (.fld (.fld (.var 3) 2) 3)) (.cons (.asg 3 (.bin .sub (.var 3) (.bin .mul (.idx (.ex (.var 1)) (.fld (.var 3) 1)) (.fld (.var 3) 2)))) .nil))) (.cons (.ret (.tupOf (.own 2))) .nil))
def ff41 : Fd := ⟨2, 4, [], none, bd41, []⟩
def fd41 : Dd := ⟨dd41, ff41, ["product", "polys", "found", "rest"], ["product", "polys"], [2], true⟩
def dd42 : He.DefD := ⟨("whole_poly", none), "whole_poly", "whole_poly", defArgs (top 36), defBody (top 36), defScope (top 36), [], []⟩
def bd42 : Sms := .cons (.own 1 (.lst (.cons (.new 0 (.cons (.tup (.cons (.int 1) .nil)) .nil)) (.cons (.call 45 (.nil)) .nil)))) (.cons (.for_ (.nm 2) (.rng2 (.int 2) (.bin .add (.var 0) (.int 1))) (.cons (.app 1 (.bin .sub (.bin .mul (.call 45 (.nil)) (.idx (.own 1) (.bin .sub (.var 2) (.int 1)))) (.bin .mul (.idx (.own 1) (.bin .sub (.var 2) (.int 2))) (.bin .sub (.var 2) (.int 1))))) .nil)) (.cons (.ret (.idx (.own 1) (.var 0))) .nil))
def ff42 : Fd := ⟨1, 3, [], none, bd42, []⟩
def fd42 : Dd := ⟨dd42, ff42, ["n", "found", "k"], ["n"], [1], true⟩
def dd43 : He.DefD := ⟨("laguerre_of", none), "laguerre_of", "laguerre_of", defArgs (top 39), defBody (top 39), defScope (top 39), [], []⟩
def bd43 : Sms := .cons (.own 1 (.lst (.cons (.new 0 (.cons (.tup (.cons (.int 1) .nil)) .nil)) (.cons (.new 0 (.cons (.tup (.cons (.neg (.int 1)) (.cons (.int 1) .nil))) .nil)) .nil)))) (.cons (.for_ (.nm 2) (.rng2 (.int 1) (.var 0)) (.cons (.app 1 (.bin .sub (.bin .mul (.new 0 (.cons (.tup (.cons (.bin .sub (.bin .mul (.neg (.int 2)) (.var 2)) (.int 1)) (.cons (.int 1) .nil))) .nil)) (.idx (.own 1) (.var 2))) (.bin .mul (.idx (.own 1) (.bin .sub (.var 2) (.int 1))) (.bin .mul (.var 2) (.var 2))))) .nil)) (.cons (.ret (.idx (.own 1) (.var 0))) .nil))
def ff43 : Fd := ⟨1, 3, [], none, bd43, []⟩
def fd43 : Dd := ⟨dd43, ff43, ["n", "found", "k"], ["n"], [1], true⟩
def dd44 : He.DefD := ⟨("need_degree", none), "need_degree", "need_degree", defArgs (top 41), defBody (top 41), defScope (top 41), [], []⟩
def bd44 : Sms := .cons (.iff (.or (.cons (.not (.call 12 (.cons (.var 0) .nil))) (.cons (.not (.chn .le .le (.int 0) (.var 0) (.con 1))) .nil))) (.cons (.raise 0 (.cons (.str [110]) (.cons (.var 0) .nil))) .nil) (.nil)) .nil
def ff44 : Fd := ⟨1, 1, [], none, bd44, []⟩
def fd44 : Dd := ⟨dd44, ff44, ["n"], ["n"], [1], true⟩
def dd45 : He.DefD := ⟨("unknown", none), "unknown", "unknown", defArgs (top 35), defBody (top 35), defScope (top 35), [], []⟩
def bd45 : Sms := .cons (.ret (.new 0 (.cons (.tup (.cons (.int 0) (.cons (.int 1) .nil))) .nil))) .nil
def ff45 : Fd := ⟨0, 0, [], none, bd45, []⟩
def fd45 : Dd := ⟨dd45, ff45, [], [], [0], true⟩
def dd46 : He.DefD := ⟨("Poly", some "__eq__"), "__eq__", "Poly.__eq__", defArgs (inClass (top 32) 1), defBody (inClass (top 32) 1), defScope (inClass (top 32) 1), [], []⟩
def bd46 : Sms := .cons (.ret (.and (.cons (.isI (.var 1) [.cls 0] false) (.cons (.cmp .eq (.fld (.var 0) 0) (.fld (.var 1) 0)) .nil)))) .nil
def ff46 : Fd := ⟨2, 2, [], none, bd46, []⟩
def fd46 : Dd := ⟨dd46, ff46, ["self", "other"], ["self", "other"], [2], false⟩
def dd47 : He.DefD := ⟨("Ratio", some "__eq__"), "__eq__", "Ratio.__eq__", defArgs (inClass (top 20) 1), defBody (inClass (top 20) 1), defScope (inClass (top 20) 1), [], []⟩
def bd47 : Sms := .cons (.ret (.and (.cons (.isI (.var 1) [.cls 1] false) (.cons (.cmp .eq (.fld (.var 0) 3) (.fld (.var 1) 3)) (.cons (.cmp .eq (.fld (.var 0) 4) (.fld (.var 1) 4)) .nil))))) .nil
def ff47 : Fd := ⟨2, 2, [], none, bd47, []⟩
def fd47 : Dd := ⟨dd47, ff47, ["self", "other"], ["self", "other"], [2], false⟩
def cl0 : Cl := ⟨25, [0, 1, 2], fun o => match o with | .add => some 26 | .sub => some 27 | .mul => some 28 | _ => none, fun o => match o with | .add => some 29 | .sub => some 30 | .mul => some 31 | _ => none, some 32, some 46, fun _ => none⟩
def dc0 : Dc := ⟨"Poly", cl0, [0, 1]⟩
def cl1 : Cl := ⟨33, [3, 4, 5, 6], fun o => match o with | .add => some 34 | .sub => some 35 | .mul => some 36 | _ => none, fun o => match o with | .add => some 37 | .sub => some 38 | .mul => some 39 | _ => none, some 40, some 47, fun _ => none⟩
def dc1 : Dc := ⟨"Ratio", cl1, [1, 2]⟩
def cons : List (Str × D) := [("MOST_FACTOR", .int 6), ("MOST_DEGREE", .int 12)]
def ii0 : Ii := ⟨"BadNumber", "__init__", "BadNumber.__init__", defArgs (inClass (top 4) 0), defBody (inClass (top 4) 0), defScope (inClass (top 4) 0)⟩
def dx0 : Dx := ⟨"BadNumber", some [7, 8], some ii0⟩
def dx1 : Dx := ⟨"BadItem", none, none⟩
def dx2 : Dx := ⟨"BadPlace", none, none⟩
def dx3 : Dx := ⟨"BadPlaces", none, none⟩
def dx4 : Dx := ⟨"BadRow", none, none⟩
def dx5 : Dx := ⟨"BadSides", none, none⟩
def dx6 : Dx := ⟨"BadSizes", none, none⟩
def dx7 : Dx := ⟨"TooMany", none, none⟩
def dx8 : Dx := ⟨"NotWhole", none, none⟩
def dx9 : Dx := ⟨"NotFactor", none, none⟩
def co0 : Co := ⟨[116, 111, 108, 100], [(1, [.str [105, 116, 101, 109], .rep 8]), (2, [.str [112, 108, 97, 99, 101], .rep 8]), (3, [.str [112, 108, 97, 99, 101, 115], .rep 8]), (0, [.str [110, 117, 109, 98, 101, 114], .fld 7, .rep 8]), (4, [.str [114, 111, 119], .rep 8]), (5, [.str [115, 105, 100, 101, 115], .rep 8]), (6, [.str [115, 105, 122, 101, 115], .rep 8]), (7, [.str [109, 97, 110, 121], .fld 7, .fld 9]), (8, [.str [119, 104, 111, 108, 101]]), (9, [.str [102, 97, 99, 116, 111, 114]])]⟩
def dk0 : Dk := ⟨⟨("_law_t_caught", none), "_law_t_caught", "_law_t_caught", defArgs (top 56), defBody (top 56), defScope (top 56), [], []⟩, co0, ["call", "e"], "call"⟩
def table : Ld := ⟨[fd0, fd1, fd2, fd3, fd4, fd5, fd6, fd7, fd8, fd9, fd10, fd11, fd12, fd13, fd14, fd15, fd16, fd17, fd18, fd19, fd20, fd21, fd22, fd23, fd24, fd25, fd26, fd27, fd28, fd29, fd30, fd31, fd32, fd33, fd34, fd35, fd36, fd37, fd38, fd39, fd40, fd41, fd42, fd43, fd44, fd45, fd46, fd47], [dc0, dc1], cons, ["numbers", "degree", "lead", "top", "bottom", "sign", "whole", "what", "value", "most"], [], true, [dx0, dx1, dx2, dx3, dx4, dx5, dx6, dx7, dx8, dx9], [[true, false, false, false, false, false, false, false, false, false], [false, true, false, false, false, false, false, false, false, false], [false, false, true, false, false, false, false, false, false, false], [false, false, false, true, false, false, false, false, false, false], [false, false, false, false, true, false, false, false, false, false], [false, false, false, false, false, true, false, false, false, false], [false, false, false, false, false, false, true, false, false, false], [false, false, false, false, false, false, false, true, false, false], [false, false, false, false, false, false, false, false, true, false], [false, false, false, false, false, false, false, false, false, true]], [dk0], [0], PySem.Challenge.pw_matchroots_k69_whole_products_as_sums.main.file⟩
theorem st_ok : stL table = true := by kernel_rfl
theorem bn0 (K : PySem.W.Frag) (a : Addr) (fd : FuncData) (F : FunD K fd0.d.name fd0.d.qual fd0.d.params fd0.d.body fd0.d.scope (fd0.d.dvs K) [] a fd) (k : Nat) (hk : fd0.ars.contains k = true) : k ≤ fd0.ps.length ∧ fd0.ps.length ≤ k + (fd0.d.dvs K).length ∧ ∃ ds, Vals ((fd0.d.dvs K).drop ((fd0.d.dvs K).length - (fd0.ps.length - k))) ds ∧ Binds K fd fd0.ps ds := by
  cases hk
theorem bn1 (K : PySem.W.Frag) (a : Addr) (fd : FuncData) (F : FunD K fd1.d.name fd1.d.qual fd1.d.params fd1.d.body fd1.d.scope (fd1.d.dvs K) [] a fd) (k : Nat) (hk : fd1.ars.contains k = true) : k ≤ fd1.ps.length ∧ fd1.ps.length ≤ k + (fd1.d.dvs K).length ∧ ∃ ds, Vals ((fd1.d.dvs K).drop ((fd1.d.dvs K).length - (fd1.ps.length - k))) ds ∧ Binds K fd fd1.ps ds := by
  have e : k = 1 := by simpa [fd1] using hk
  rcases e with rfl
  · exact ⟨Nat.le_refl _, Nat.le_add_right _ _, [], .nil, FunD.bindsN (ps := fd1.ps) (show FunD K fd1.d.name fd1.d.qual fd1.d.params fd1.d.body fd1.d.scope [] [] a fd from F) fun _ _ _ _ _ _ us hl => match us, hl with | [_], _ => rfl⟩
theorem bn2 (K : PySem.W.Frag) (a : Addr) (fd : FuncData) (F : FunD K fd2.d.name fd2.d.qual fd2.d.params fd2.d.body fd2.d.scope (fd2.d.dvs K) [] a fd) (k : Nat) (hk : fd2.ars.contains k = true) : k ≤ fd2.ps.length ∧ fd2.ps.length ≤ k + (fd2.d.dvs K).length ∧ ∃ ds, Vals ((fd2.d.dvs K).drop ((fd2.d.dvs K).length - (fd2.ps.length - k))) ds ∧ Binds K fd fd2.ps ds := by
  have e : k = 2 := by simpa [fd2] using hk
  rcases e with rfl
  · exact ⟨Nat.le_refl _, Nat.le_add_right _ _, [], .nil, FunD.bindsN (ps := fd2.ps) (show FunD K fd2.d.name fd2.d.qual fd2.d.params fd2.d.body fd2.d.scope [] [] a fd from F) fun _ _ _ _ _ _ us hl => match us, hl with | [_, _], _ => rfl⟩
theorem bn3 (K : PySem.W.Frag) (a : Addr) (fd : FuncData) (F : FunD K fd3.d.name fd3.d.qual fd3.d.params fd3.d.body fd3.d.scope (fd3.d.dvs K) [] a fd) (k : Nat) (hk : fd3.ars.contains k = true) : k ≤ fd3.ps.length ∧ fd3.ps.length ≤ k + (fd3.d.dvs K).length ∧ ∃ ds, Vals ((fd3.d.dvs K).drop ((fd3.d.dvs K).length - (fd3.ps.length - k))) ds ∧ Binds K fd fd3.ps ds := by
  have e : k = 2 := by simpa [fd3] using hk
  rcases e with rfl
  · exact ⟨Nat.le_refl _, Nat.le_add_right _ _, [], .nil, FunD.bindsN (ps := fd3.ps) (show FunD K fd3.d.name fd3.d.qual fd3.d.params fd3.d.body fd3.d.scope [] [] a fd from F) fun _ _ _ _ _ _ us hl => match us, hl with | [_, _], _ => rfl⟩
theorem bn4 (K : PySem.W.Frag) (a : Addr) (fd : FuncData) (F : FunD K fd4.d.name fd4.d.qual fd4.d.params fd4.d.body fd4.d.scope (fd4.d.dvs K) [] a fd) (k : Nat) (hk : fd4.ars.contains k = true) : k ≤ fd4.ps.length ∧ fd4.ps.length ≤ k + (fd4.d.dvs K).length ∧ ∃ ds, Vals ((fd4.d.dvs K).drop ((fd4.d.dvs K).length - (fd4.ps.length - k))) ds ∧ Binds K fd fd4.ps ds := by
  have e : k = 2 := by simpa [fd4] using hk
  rcases e with rfl
  · exact ⟨Nat.le_refl _, Nat.le_add_right _ _, [], .nil, FunD.bindsN (ps := fd4.ps) (show FunD K fd4.d.name fd4.d.qual fd4.d.params fd4.d.body fd4.d.scope [] [] a fd from F) fun _ _ _ _ _ _ us hl => match us, hl with | [_, _], _ => rfl⟩
theorem bn5 (K : PySem.W.Frag) (a : Addr) (fd : FuncData) (F : FunD K fd5.d.name fd5.d.qual fd5.d.params fd5.d.body fd5.d.scope (fd5.d.dvs K) [] a fd) (k : Nat) (hk : fd5.ars.contains k = true) : k ≤ fd5.ps.length ∧ fd5.ps.length ≤ k + (fd5.d.dvs K).length ∧ ∃ ds, Vals ((fd5.d.dvs K).drop ((fd5.d.dvs K).length - (fd5.ps.length - k))) ds ∧ Binds K fd fd5.ps ds := by
  have e : k = 2 := by simpa [fd5] using hk
  rcases e with rfl
  · exact ⟨Nat.le_refl _, Nat.le_add_right _ _, [], .nil, FunD.bindsN (ps := fd5.ps) (show FunD K fd5.d.name fd5.d.qual fd5.d.params fd5.d.body fd5.d.scope [] [] a fd from F) fun _ _ _ _ _ _ us hl => match us, hl with | [_, _], _ => rfl⟩
theorem bn6 (K : PySem.W.Frag) (a : Addr) (fd : FuncData) (F : FunD K fd6.d.name fd6.d.qual fd6.d.params fd6.d.body fd6.d.scope (fd6.d.dvs K) [] a fd) (k : Nat) (hk : fd6.ars.contains k = true) : k ≤ fd6.ps.length ∧ fd6.ps.length ≤ k + (fd6.d.dvs K).length ∧ ∃ ds, Vals ((fd6.d.dvs K).drop ((fd6.d.dvs K).length - (fd6.ps.length - k))) ds ∧ Binds K fd fd6.ps ds := by
  have e : k = 2 := by simpa [fd6] using hk
  rcases e with rfl
  · exact ⟨Nat.le_refl _, Nat.le_add_right _ _, [], .nil, FunD.bindsN (ps := fd6.ps) (show FunD K fd6.d.name fd6.d.qual fd6.d.params fd6.d.body fd6.d.scope [] [] a fd from F) fun _ _ _ _ _ _ us hl => match us, hl with | [_, _], _ => rfl⟩
theorem bn7 (K : PySem.W.Frag) (a : Addr) (fd : FuncData) (F : FunD K fd7.d.name fd7.d.qual fd7.d.params fd7.d.body fd7.d.scope (fd7.d.dvs K) [] a fd) (k : Nat) (hk : fd7.ars.contains k = true) : k ≤ fd7.ps.length ∧ fd7.ps.length ≤ k + (fd7.d.dvs K).length ∧ ∃ ds, Vals ((fd7.d.dvs K).drop ((fd7.d.dvs K).length - (fd7.ps.length - k))) ds ∧ Binds K fd fd7.ps ds := by
  have e : k = 1 := by simpa [fd7] using hk
  rcases e with rfl
  · exact ⟨Nat.le_refl _, Nat.le_add_right _ _, [], .nil, FunD.bindsN (ps := fd7.ps) (show FunD K fd7.d.name fd7.d.qual fd7.d.params fd7.d.body fd7.d.scope [] [] a fd from F) fun _ _ _ _ _ _ us hl => match us, hl with | [_], _ => rfl⟩
theorem bn8 (K : PySem.W.Frag) (a : Addr) (fd : FuncData) (F : FunD K fd8.d.name fd8.d.qual fd8.d.params fd8.d.body fd8.d.scope (fd8.d.dvs K) [] a fd) (k : Nat) (hk : fd8.ars.contains k = true) : k ≤ fd8.ps.length ∧ fd8.ps.length ≤ k + (fd8.d.dvs K).length ∧ ∃ ds, Vals ((fd8.d.dvs K).drop ((fd8.d.dvs K).length - (fd8.ps.length - k))) ds ∧ Binds K fd fd8.ps ds := by
  have e : k = 1 := by simpa [fd8] using hk
  rcases e with rfl
  · exact ⟨Nat.le_refl _, Nat.le_add_right _ _, [], .nil, FunD.bindsN (ps := fd8.ps) (show FunD K fd8.d.name fd8.d.qual fd8.d.params fd8.d.body fd8.d.scope [] [] a fd from F) fun _ _ _ _ _ _ us hl => match us, hl with | [_], _ => rfl⟩
theorem bn9 (K : PySem.W.Frag) (a : Addr) (fd : FuncData) (F : FunD K fd9.d.name fd9.d.qual fd9.d.params fd9.d.body fd9.d.scope (fd9.d.dvs K) [] a fd) (k : Nat) (hk : fd9.ars.contains k = true) : k ≤ fd9.ps.length ∧ fd9.ps.length ≤ k + (fd9.d.dvs K).length ∧ ∃ ds, Vals ((fd9.d.dvs K).drop ((fd9.d.dvs K).length - (fd9.ps.length - k))) ds ∧ Binds K fd fd9.ps ds := by
  have e : k = 1 := by simpa [fd9] using hk
  rcases e with rfl
  · exact ⟨Nat.le_refl _, Nat.le_add_right _ _, [], .nil, FunD.bindsN (ps := fd9.ps) (show FunD K fd9.d.name fd9.d.qual fd9.d.params fd9.d.body fd9.d.scope [] [] a fd from F) fun _ _ _ _ _ _ us hl => match us, hl with | [_], _ => rfl⟩
theorem bn10 (K : PySem.W.Frag) (a : Addr) (fd : FuncData) (F : FunD K fd10.d.name fd10.d.qual fd10.d.params fd10.d.body fd10.d.scope (fd10.d.dvs K) [] a fd) (k : Nat) (hk : fd10.ars.contains k = true) : k ≤ fd10.ps.length ∧ fd10.ps.length ≤ k + (fd10.d.dvs K).length ∧ ∃ ds, Vals ((fd10.d.dvs K).drop ((fd10.d.dvs K).length - (fd10.ps.length - k))) ds ∧ Binds K fd fd10.ps ds := by
  have e : k = 1 := by simpa [fd10] using hk
  rcases e with rfl
  · exact ⟨Nat.le_refl _, Nat.le_add_right _ _, [], .nil, FunD.bindsN (ps := fd10.ps) (show FunD K fd10.d.name fd10.d.qual fd10.d.params fd10.d.body fd10.d.scope [] [] a fd from F) fun _ _ _ _ _ _ us hl => match us, hl with | [_], _ => rfl⟩
theorem bn11 (K : PySem.W.Frag) (a : Addr) (fd : FuncData) (F : FunD K fd11.d.name fd11.d.qual fd11.d.params fd11.d.body fd11.d.scope (fd11.d.dvs K) [] a fd) (k : Nat) (hk : fd11.ars.contains k = true) : k ≤ fd11.ps.length ∧ fd11.ps.length ≤ k + (fd11.d.dvs K).length ∧ ∃ ds, Vals ((fd11.d.dvs K).drop ((fd11.d.dvs K).length - (fd11.ps.length - k))) ds ∧ Binds K fd fd11.ps ds := by
  have e : k = 1 := by simpa [fd11] using hk
  rcases e with rfl
  · exact ⟨Nat.le_refl _, Nat.le_add_right _ _, [], .nil, FunD.bindsN (ps := fd11.ps) (show FunD K fd11.d.name fd11.d.qual fd11.d.params fd11.d.body fd11.d.scope [] [] a fd from F) fun _ _ _ _ _ _ us hl => match us, hl with | [_], _ => rfl⟩
theorem bn12 (K : PySem.W.Frag) (a : Addr) (fd : FuncData) (F : FunD K fd12.d.name fd12.d.qual fd12.d.params fd12.d.body fd12.d.scope (fd12.d.dvs K) [] a fd) (k : Nat) (hk : fd12.ars.contains k = true) : k ≤ fd12.ps.length ∧ fd12.ps.length ≤ k + (fd12.d.dvs K).length ∧ ∃ ds, Vals ((fd12.d.dvs K).drop ((fd12.d.dvs K).length - (fd12.ps.length - k))) ds ∧ Binds K fd fd12.ps ds := by
  have e : k = 1 := by simpa [fd12] using hk
  rcases e with rfl
  · exact ⟨Nat.le_refl _, Nat.le_add_right _ _, [], .nil, FunD.bindsN (ps := fd12.ps) (show FunD K fd12.d.name fd12.d.qual fd12.d.params fd12.d.body fd12.d.scope [] [] a fd from F) fun _ _ _ _ _ _ us hl => match us, hl with | [_], _ => rfl⟩
theorem bn13 (K : PySem.W.Frag) (a : Addr) (fd : FuncData) (F : FunD K fd13.d.name fd13.d.qual fd13.d.params fd13.d.body fd13.d.scope (fd13.d.dvs K) [] a fd) (k : Nat) (hk : fd13.ars.contains k = true) : k ≤ fd13.ps.length ∧ fd13.ps.length ≤ k + (fd13.d.dvs K).length ∧ ∃ ds, Vals ((fd13.d.dvs K).drop ((fd13.d.dvs K).length - (fd13.ps.length - k))) ds ∧ Binds K fd fd13.ps ds := by
  have e : k = 2 := by simpa [fd13] using hk
  rcases e with rfl
  · exact ⟨Nat.le_refl _, Nat.le_add_right _ _, [], .nil, FunD.bindsN (ps := fd13.ps) (show FunD K fd13.d.name fd13.d.qual fd13.d.params fd13.d.body fd13.d.scope [] [] a fd from F) fun _ _ _ _ _ _ us hl => match us, hl with | [_, _], _ => rfl⟩
theorem bn14 (K : PySem.W.Frag) (a : Addr) (fd : FuncData) (F : FunD K fd14.d.name fd14.d.qual fd14.d.params fd14.d.body fd14.d.scope (fd14.d.dvs K) [] a fd) (k : Nat) (hk : fd14.ars.contains k = true) : k ≤ fd14.ps.length ∧ fd14.ps.length ≤ k + (fd14.d.dvs K).length ∧ ∃ ds, Vals ((fd14.d.dvs K).drop ((fd14.d.dvs K).length - (fd14.ps.length - k))) ds ∧ Binds K fd fd14.ps ds := by
  have e : k = 2 := by simpa [fd14] using hk
  rcases e with rfl
  · exact ⟨Nat.le_refl _, Nat.le_add_right _ _, [], .nil, FunD.bindsN (ps := fd14.ps) (show FunD K fd14.d.name fd14.d.qual fd14.d.params fd14.d.body fd14.d.scope [] [] a fd from F) fun _ _ _ _ _ _ us hl => match us, hl with | [_, _], _ => rfl⟩
theorem bn15 (K : PySem.W.Frag) (a : Addr) (fd : FuncData) (F : FunD K fd15.d.name fd15.d.qual fd15.d.params fd15.d.body fd15.d.scope (fd15.d.dvs K) [] a fd) (k : Nat) (hk : fd15.ars.contains k = true) : k ≤ fd15.ps.length ∧ fd15.ps.length ≤ k + (fd15.d.dvs K).length ∧ ∃ ds, Vals ((fd15.d.dvs K).drop ((fd15.d.dvs K).length - (fd15.ps.length - k))) ds ∧ Binds K fd fd15.ps ds := by
  have e : k = 2 := by simpa [fd15] using hk
  rcases e with rfl
  · exact ⟨Nat.le_refl _, Nat.le_add_right _ _, [], .nil, FunD.bindsN (ps := fd15.ps) (show FunD K fd15.d.name fd15.d.qual fd15.d.params fd15.d.body fd15.d.scope [] [] a fd from F) fun _ _ _ _ _ _ us hl => match us, hl with | [_, _], _ => rfl⟩
theorem bn16 (K : PySem.W.Frag) (a : Addr) (fd : FuncData) (F : FunD K fd16.d.name fd16.d.qual fd16.d.params fd16.d.body fd16.d.scope (fd16.d.dvs K) [] a fd) (k : Nat) (hk : fd16.ars.contains k = true) : k ≤ fd16.ps.length ∧ fd16.ps.length ≤ k + (fd16.d.dvs K).length ∧ ∃ ds, Vals ((fd16.d.dvs K).drop ((fd16.d.dvs K).length - (fd16.ps.length - k))) ds ∧ Binds K fd fd16.ps ds := by
  have e : k = 1 := by simpa [fd16] using hk
  rcases e with rfl
  · exact ⟨Nat.le_refl _, Nat.le_add_right _ _, [], .nil, FunD.bindsN (ps := fd16.ps) (show FunD K fd16.d.name fd16.d.qual fd16.d.params fd16.d.body fd16.d.scope [] [] a fd from F) fun _ _ _ _ _ _ us hl => match us, hl with | [_], _ => rfl⟩
theorem bn17 (K : PySem.W.Frag) (a : Addr) (fd : FuncData) (F : FunD K fd17.d.name fd17.d.qual fd17.d.params fd17.d.body fd17.d.scope (fd17.d.dvs K) [] a fd) (k : Nat) (hk : fd17.ars.contains k = true) : k ≤ fd17.ps.length ∧ fd17.ps.length ≤ k + (fd17.d.dvs K).length ∧ ∃ ds, Vals ((fd17.d.dvs K).drop ((fd17.d.dvs K).length - (fd17.ps.length - k))) ds ∧ Binds K fd fd17.ps ds := by
  have e : k = 1 := by simpa [fd17] using hk
  rcases e with rfl
  · exact ⟨Nat.le_refl _, Nat.le_add_right _ _, [], .nil, FunD.bindsN (ps := fd17.ps) (show FunD K fd17.d.name fd17.d.qual fd17.d.params fd17.d.body fd17.d.scope [] [] a fd from F) fun _ _ _ _ _ _ us hl => match us, hl with | [_], _ => rfl⟩
theorem bn18 (K : PySem.W.Frag) (a : Addr) (fd : FuncData) (F : FunD K fd18.d.name fd18.d.qual fd18.d.params fd18.d.body fd18.d.scope (fd18.d.dvs K) [] a fd) (k : Nat) (hk : fd18.ars.contains k = true) : k ≤ fd18.ps.length ∧ fd18.ps.length ≤ k + (fd18.d.dvs K).length ∧ ∃ ds, Vals ((fd18.d.dvs K).drop ((fd18.d.dvs K).length - (fd18.ps.length - k))) ds ∧ Binds K fd fd18.ps ds := by
  have e : k = 1 := by simpa [fd18] using hk
  rcases e with rfl
  · exact ⟨Nat.le_refl _, Nat.le_add_right _ _, [], .nil, FunD.bindsN (ps := fd18.ps) (show FunD K fd18.d.name fd18.d.qual fd18.d.params fd18.d.body fd18.d.scope [] [] a fd from F) fun _ _ _ _ _ _ us hl => match us, hl with | [_], _ => rfl⟩
theorem bn19 (K : PySem.W.Frag) (a : Addr) (fd : FuncData) (F : FunD K fd19.d.name fd19.d.qual fd19.d.params fd19.d.body fd19.d.scope (fd19.d.dvs K) [] a fd) (k : Nat) (hk : fd19.ars.contains k = true) : k ≤ fd19.ps.length ∧ fd19.ps.length ≤ k + (fd19.d.dvs K).length ∧ ∃ ds, Vals ((fd19.d.dvs K).drop ((fd19.d.dvs K).length - (fd19.ps.length - k))) ds ∧ Binds K fd fd19.ps ds := by
  have e : k = 2 := by simpa [fd19] using hk
  rcases e with rfl
  · exact ⟨Nat.le_refl _, Nat.le_add_right _ _, [], .nil, FunD.bindsN (ps := fd19.ps) (show FunD K fd19.d.name fd19.d.qual fd19.d.params fd19.d.body fd19.d.scope [] [] a fd from F) fun _ _ _ _ _ _ us hl => match us, hl with | [_, _], _ => rfl⟩
theorem bn20 (K : PySem.W.Frag) (a : Addr) (fd : FuncData) (F : FunD K fd20.d.name fd20.d.qual fd20.d.params fd20.d.body fd20.d.scope (fd20.d.dvs K) [] a fd) (k : Nat) (hk : fd20.ars.contains k = true) : k ≤ fd20.ps.length ∧ fd20.ps.length ≤ k + (fd20.d.dvs K).length ∧ ∃ ds, Vals ((fd20.d.dvs K).drop ((fd20.d.dvs K).length - (fd20.ps.length - k))) ds ∧ Binds K fd fd20.ps ds := by
  have e : k = 1 := by simpa [fd20] using hk
  rcases e with rfl
  · exact ⟨Nat.le_refl _, Nat.le_add_right _ _, [], .nil, FunD.bindsN (ps := fd20.ps) (show FunD K fd20.d.name fd20.d.qual fd20.d.params fd20.d.body fd20.d.scope [] [] a fd from F) fun _ _ _ _ _ _ us hl => match us, hl with | [_], _ => rfl⟩
theorem bn21 (K : PySem.W.Frag) (a : Addr) (fd : FuncData) (F : FunD K fd21.d.name fd21.d.qual fd21.d.params fd21.d.body fd21.d.scope (fd21.d.dvs K) [] a fd) (k : Nat) (hk : fd21.ars.contains k = true) : k ≤ fd21.ps.length ∧ fd21.ps.length ≤ k + (fd21.d.dvs K).length ∧ ∃ ds, Vals ((fd21.d.dvs K).drop ((fd21.d.dvs K).length - (fd21.ps.length - k))) ds ∧ Binds K fd fd21.ps ds := by
  have e : k = 2 := by simpa [fd21] using hk
  rcases e with rfl
  · exact ⟨Nat.le_refl _, Nat.le_add_right _ _, [], .nil, FunD.bindsN (ps := fd21.ps) (show FunD K fd21.d.name fd21.d.qual fd21.d.params fd21.d.body fd21.d.scope [] [] a fd from F) fun _ _ _ _ _ _ us hl => match us, hl with | [_, _], _ => rfl⟩
theorem bn22 (K : PySem.W.Frag) (a : Addr) (fd : FuncData) (F : FunD K fd22.d.name fd22.d.qual fd22.d.params fd22.d.body fd22.d.scope (fd22.d.dvs K) [] a fd) (k : Nat) (hk : fd22.ars.contains k = true) : k ≤ fd22.ps.length ∧ fd22.ps.length ≤ k + (fd22.d.dvs K).length ∧ ∃ ds, Vals ((fd22.d.dvs K).drop ((fd22.d.dvs K).length - (fd22.ps.length - k))) ds ∧ Binds K fd fd22.ps ds := by
  have e : k = 2 := by simpa [fd22] using hk
  rcases e with rfl
  · exact ⟨Nat.le_refl _, Nat.le_add_right _ _, [], .nil, FunD.bindsN (ps := fd22.ps) (show FunD K fd22.d.name fd22.d.qual fd22.d.params fd22.d.body fd22.d.scope [] [] a fd from F) fun _ _ _ _ _ _ us hl => match us, hl with | [_, _], _ => rfl⟩
theorem bn23 (K : PySem.W.Frag) (a : Addr) (fd : FuncData) (F : FunD K fd23.d.name fd23.d.qual fd23.d.params fd23.d.body fd23.d.scope (fd23.d.dvs K) [] a fd) (k : Nat) (hk : fd23.ars.contains k = true) : k ≤ fd23.ps.length ∧ fd23.ps.length ≤ k + (fd23.d.dvs K).length ∧ ∃ ds, Vals ((fd23.d.dvs K).drop ((fd23.d.dvs K).length - (fd23.ps.length - k))) ds ∧ Binds K fd fd23.ps ds := by
  have e : k = 1 := by simpa [fd23] using hk
  rcases e with rfl
  · exact ⟨Nat.le_refl _, Nat.le_add_right _ _, [], .nil, FunD.bindsN (ps := fd23.ps) (show FunD K fd23.d.name fd23.d.qual fd23.d.params fd23.d.body fd23.d.scope [] [] a fd from F) fun _ _ _ _ _ _ us hl => match us, hl with | [_], _ => rfl⟩
theorem bn24 (K : PySem.W.Frag) (a : Addr) (fd : FuncData) (F : FunD K fd24.d.name fd24.d.qual fd24.d.params fd24.d.body fd24.d.scope (fd24.d.dvs K) [] a fd) (k : Nat) (hk : fd24.ars.contains k = true) : k ≤ fd24.ps.length ∧ fd24.ps.length ≤ k + (fd24.d.dvs K).length ∧ ∃ ds, Vals ((fd24.d.dvs K).drop ((fd24.d.dvs K).length - (fd24.ps.length - k))) ds ∧ Binds K fd fd24.ps ds := by
  have e : k = 2 := by simpa [fd24] using hk
  rcases e with rfl
  · exact ⟨Nat.le_refl _, Nat.le_add_right _ _, [], .nil, FunD.bindsN (ps := fd24.ps) (show FunD K fd24.d.name fd24.d.qual fd24.d.params fd24.d.body fd24.d.scope [] [] a fd from F) fun _ _ _ _ _ _ us hl => match us, hl with | [_, _], _ => rfl⟩
theorem bn25 (K : PySem.W.Frag) (a : Addr) (fd : FuncData) (F : FunD K fd25.d.name fd25.d.qual fd25.d.params fd25.d.body fd25.d.scope (fd25.d.dvs K) [] a fd) (k : Nat) (hk : fd25.ars.contains k = true) : k ≤ fd25.ps.length ∧ fd25.ps.length ≤ k + (fd25.d.dvs K).length ∧ ∃ ds, Vals ((fd25.d.dvs K).drop ((fd25.d.dvs K).length - (fd25.ps.length - k))) ds ∧ Binds K fd fd25.ps ds := by
  have e : k = 1 ∨ k = 2 := by simpa [fd25] using hk
  rcases e with rfl | rfl
  · obtain ⟨ds, h1, h2⟩ := FunD.binds1 (ps := fd25.ps) F 1 0 (fun q => by cases q) rfl (fun T kV doc pm an cdv ct us its hl hi => match us, its, hl, hi with | [_], [_], _, _ => ⟨_, rfl, rfl⟩)
    exact ⟨by decide, Nat.le_of_ble_eq_true rfl, ds, h1, h2⟩
  · obtain ⟨ds, h1, h2⟩ := FunD.binds1 (ps := fd25.ps) F 2 1 (fun q => by cases q) rfl (fun T kV doc pm an cdv ct us its hl hi => match us, its, hl, hi with | [_, _], [_], _, _ => ⟨_, rfl, rfl⟩)
    exact ⟨by decide, Nat.le_of_ble_eq_true rfl, ds, h1, h2⟩
theorem bn26 (K : PySem.W.Frag) (a : Addr) (fd : FuncData) (F : FunD K fd26.d.name fd26.d.qual fd26.d.params fd26.d.body fd26.d.scope (fd26.d.dvs K) [] a fd) (k : Nat) (hk : fd26.ars.contains k = true) : k ≤ fd26.ps.length ∧ fd26.ps.length ≤ k + (fd26.d.dvs K).length ∧ ∃ ds, Vals ((fd26.d.dvs K).drop ((fd26.d.dvs K).length - (fd26.ps.length - k))) ds ∧ Binds K fd fd26.ps ds := by
  have e : k = 2 := by simpa [fd26] using hk
  rcases e with rfl
  · exact ⟨Nat.le_refl _, Nat.le_add_right _ _, [], .nil, FunD.bindsN (ps := fd26.ps) (show FunD K fd26.d.name fd26.d.qual fd26.d.params fd26.d.body fd26.d.scope [] [] a fd from F) fun _ _ _ _ _ _ us hl => match us, hl with | [_, _], _ => rfl⟩
theorem bn27 (K : PySem.W.Frag) (a : Addr) (fd : FuncData) (F : FunD K fd27.d.name fd27.d.qual fd27.d.params fd27.d.body fd27.d.scope (fd27.d.dvs K) [] a fd) (k : Nat) (hk : fd27.ars.contains k = true) : k ≤ fd27.ps.length ∧ fd27.ps.length ≤ k + (fd27.d.dvs K).length ∧ ∃ ds, Vals ((fd27.d.dvs K).drop ((fd27.d.dvs K).length - (fd27.ps.length - k))) ds ∧ Binds K fd fd27.ps ds := by
  have e : k = 2 := by simpa [fd27] using hk
  rcases e with rfl
  · exact ⟨Nat.le_refl _, Nat.le_add_right _ _, [], .nil, FunD.bindsN (ps := fd27.ps) (show FunD K fd27.d.name fd27.d.qual fd27.d.params fd27.d.body fd27.d.scope [] [] a fd from F) fun _ _ _ _ _ _ us hl => match us, hl with | [_, _], _ => rfl⟩
theorem bn28 (K : PySem.W.Frag) (a : Addr) (fd : FuncData) (F : FunD K fd28.d.name fd28.d.qual fd28.d.params fd28.d.body fd28.d.scope (fd28.d.dvs K) [] a fd) (k : Nat) (hk : fd28.ars.contains k = true) : k ≤ fd28.ps.length ∧ fd28.ps.length ≤ k + (fd28.d.dvs K).length ∧ ∃ ds, Vals ((fd28.d.dvs K).drop ((fd28.d.dvs K).length - (fd28.ps.length - k))) ds ∧ Binds K fd fd28.ps ds := by
  have e : k = 2 := by simpa [fd28] using hk
  rcases e with rfl
  · exact ⟨Nat.le_refl _, Nat.le_add_right _ _, [], .nil, FunD.bindsN (ps := fd28.ps) (show FunD K fd28.d.name fd28.d.qual fd28.d.params fd28.d.body fd28.d.scope [] [] a fd from F) fun _ _ _ _ _ _ us hl => match us, hl with | [_, _], _ => rfl⟩
theorem bn29 (K : PySem.W.Frag) (a : Addr) (fd : FuncData) (F : FunD K fd29.d.name fd29.d.qual fd29.d.params fd29.d.body fd29.d.scope (fd29.d.dvs K) [] a fd) (k : Nat) (hk : fd29.ars.contains k = true) : k ≤ fd29.ps.length ∧ fd29.ps.length ≤ k + (fd29.d.dvs K).length ∧ ∃ ds, Vals ((fd29.d.dvs K).drop ((fd29.d.dvs K).length - (fd29.ps.length - k))) ds ∧ Binds K fd fd29.ps ds := by
  have e : k = 2 := by simpa [fd29] using hk
  rcases e with rfl
  · exact ⟨Nat.le_refl _, Nat.le_add_right _ _, [], .nil, FunD.bindsN (ps := fd29.ps) (show FunD K fd29.d.name fd29.d.qual fd29.d.params fd29.d.body fd29.d.scope [] [] a fd from F) fun _ _ _ _ _ _ us hl => match us, hl with | [_, _], _ => rfl⟩
theorem bn30 (K : PySem.W.Frag) (a : Addr) (fd : FuncData) (F : FunD K fd30.d.name fd30.d.qual fd30.d.params fd30.d.body fd30.d.scope (fd30.d.dvs K) [] a fd) (k : Nat) (hk : fd30.ars.contains k = true) : k ≤ fd30.ps.length ∧ fd30.ps.length ≤ k + (fd30.d.dvs K).length ∧ ∃ ds, Vals ((fd30.d.dvs K).drop ((fd30.d.dvs K).length - (fd30.ps.length - k))) ds ∧ Binds K fd fd30.ps ds := by
  have e : k = 2 := by simpa [fd30] using hk
  rcases e with rfl
  · exact ⟨Nat.le_refl _, Nat.le_add_right _ _, [], .nil, FunD.bindsN (ps := fd30.ps) (show FunD K fd30.d.name fd30.d.qual fd30.d.params fd30.d.body fd30.d.scope [] [] a fd from F) fun _ _ _ _ _ _ us hl => match us, hl with | [_, _], _ => rfl⟩
theorem bn31 (K : PySem.W.Frag) (a : Addr) (fd : FuncData) (F : FunD K fd31.d.name fd31.d.qual fd31.d.params fd31.d.body fd31.d.scope (fd31.d.dvs K) [] a fd) (k : Nat) (hk : fd31.ars.contains k = true) : k ≤ fd31.ps.length ∧ fd31.ps.length ≤ k + (fd31.d.dvs K).length ∧ ∃ ds, Vals ((fd31.d.dvs K).drop ((fd31.d.dvs K).length - (fd31.ps.length - k))) ds ∧ Binds K fd fd31.ps ds := by
  have e : k = 2 := by simpa [fd31] using hk
  rcases e with rfl
  · exact ⟨Nat.le_refl _, Nat.le_add_right _ _, [], .nil, FunD.bindsN (ps := fd31.ps) (show FunD K fd31.d.name fd31.d.qual fd31.d.params fd31.d.body fd31.d.scope [] [] a fd from F) fun _ _ _ _ _ _ us hl => match us, hl with | [_, _], _ => rfl⟩
theorem bn32 (K : PySem.W.Frag) (a : Addr) (fd : FuncData) (F : FunD K fd32.d.name fd32.d.qual fd32.d.params fd32.d.body fd32.d.scope (fd32.d.dvs K) [] a fd) (k : Nat) (hk : fd32.ars.contains k = true) : k ≤ fd32.ps.length ∧ fd32.ps.length ≤ k + (fd32.d.dvs K).length ∧ ∃ ds, Vals ((fd32.d.dvs K).drop ((fd32.d.dvs K).length - (fd32.ps.length - k))) ds ∧ Binds K fd fd32.ps ds := by
  have e : k = 1 := by simpa [fd32] using hk
  rcases e with rfl
  · exact ⟨Nat.le_refl _, Nat.le_add_right _ _, [], .nil, FunD.bindsN (ps := fd32.ps) (show FunD K fd32.d.name fd32.d.qual fd32.d.params fd32.d.body fd32.d.scope [] [] a fd from F) fun _ _ _ _ _ _ us hl => match us, hl with | [_], _ => rfl⟩
theorem bn33 (K : PySem.W.Frag) (a : Addr) (fd : FuncData) (F : FunD K fd33.d.name fd33.d.qual fd33.d.params fd33.d.body fd33.d.scope (fd33.d.dvs K) [] a fd) (k : Nat) (hk : fd33.ars.contains k = true) : k ≤ fd33.ps.length ∧ fd33.ps.length ≤ k + (fd33.d.dvs K).length ∧ ∃ ds, Vals ((fd33.d.dvs K).drop ((fd33.d.dvs K).length - (fd33.ps.length - k))) ds ∧ Binds K fd fd33.ps ds := by
  have e : k = 2 ∨ k = 3 := by simpa [fd33] using hk
  rcases e with rfl | rfl
  · obtain ⟨ds, h1, h2⟩ := FunD.binds1 (ps := fd33.ps) F 2 0 (fun q => by cases q) rfl (fun T kV doc pm an cdv ct us its hl hi => match us, its, hl, hi with | [_, _], [_], _, _ => ⟨_, rfl, rfl⟩)
    exact ⟨by decide, Nat.le_of_ble_eq_true rfl, ds, h1, h2⟩
  · obtain ⟨ds, h1, h2⟩ := FunD.binds1 (ps := fd33.ps) F 3 1 (fun q => by cases q) rfl (fun T kV doc pm an cdv ct us its hl hi => match us, its, hl, hi with | [_, _, _], [_], _, _ => ⟨_, rfl, rfl⟩)
    exact ⟨by decide, Nat.le_of_ble_eq_true rfl, ds, h1, h2⟩
theorem bn34 (K : PySem.W.Frag) (a : Addr) (fd : FuncData) (F : FunD K fd34.d.name fd34.d.qual fd34.d.params fd34.d.body fd34.d.scope (fd34.d.dvs K) [] a fd) (k : Nat) (hk : fd34.ars.contains k = true) : k ≤ fd34.ps.length ∧ fd34.ps.length ≤ k + (fd34.d.dvs K).length ∧ ∃ ds, Vals ((fd34.d.dvs K).drop ((fd34.d.dvs K).length - (fd34.ps.length - k))) ds ∧ Binds K fd fd34.ps ds := by
  have e : k = 2 := by simpa [fd34] using hk
  rcases e with rfl
  · exact ⟨Nat.le_refl _, Nat.le_add_right _ _, [], .nil, FunD.bindsN (ps := fd34.ps) (show FunD K fd34.d.name fd34.d.qual fd34.d.params fd34.d.body fd34.d.scope [] [] a fd from F) fun _ _ _ _ _ _ us hl => match us, hl with | [_, _], _ => rfl⟩
theorem bn35 (K : PySem.W.Frag) (a : Addr) (fd : FuncData) (F : FunD K fd35.d.name fd35.d.qual fd35.d.params fd35.d.body fd35.d.scope (fd35.d.dvs K) [] a fd) (k : Nat) (hk : fd35.ars.contains k = true) : k ≤ fd35.ps.length ∧ fd35.ps.length ≤ k + (fd35.d.dvs K).length ∧ ∃ ds, Vals ((fd35.d.dvs K).drop ((fd35.d.dvs K).length - (fd35.ps.length - k))) ds ∧ Binds K fd fd35.ps ds := by
  have e : k = 2 := by simpa [fd35] using hk
  rcases e with rfl
  · exact ⟨Nat.le_refl _, Nat.le_add_right _ _, [], .nil, FunD.bindsN (ps := fd35.ps) (show FunD K fd35.d.name fd35.d.qual fd35.d.params fd35.d.body fd35.d.scope [] [] a fd from F) fun _ _ _ _ _ _ us hl => match us, hl with | [_, _], _ => rfl⟩
theorem bn36 (K : PySem.W.Frag) (a : Addr) (fd : FuncData) (F : FunD K fd36.d.name fd36.d.qual fd36.d.params fd36.d.body fd36.d.scope (fd36.d.dvs K) [] a fd) (k : Nat) (hk : fd36.ars.contains k = true) : k ≤ fd36.ps.length ∧ fd36.ps.length ≤ k + (fd36.d.dvs K).length ∧ ∃ ds, Vals ((fd36.d.dvs K).drop ((fd36.d.dvs K).length - (fd36.ps.length - k))) ds ∧ Binds K fd fd36.ps ds := by
  have e : k = 2 := by simpa [fd36] using hk
  rcases e with rfl
  · exact ⟨Nat.le_refl _, Nat.le_add_right _ _, [], .nil, FunD.bindsN (ps := fd36.ps) (show FunD K fd36.d.name fd36.d.qual fd36.d.params fd36.d.body fd36.d.scope [] [] a fd from F) fun _ _ _ _ _ _ us hl => match us, hl with | [_, _], _ => rfl⟩
theorem bn37 (K : PySem.W.Frag) (a : Addr) (fd : FuncData) (F : FunD K fd37.d.name fd37.d.qual fd37.d.params fd37.d.body fd37.d.scope (fd37.d.dvs K) [] a fd) (k : Nat) (hk : fd37.ars.contains k = true) : k ≤ fd37.ps.length ∧ fd37.ps.length ≤ k + (fd37.d.dvs K).length ∧ ∃ ds, Vals ((fd37.d.dvs K).drop ((fd37.d.dvs K).length - (fd37.ps.length - k))) ds ∧ Binds K fd fd37.ps ds := by
  have e : k = 2 := by simpa [fd37] using hk
  rcases e with rfl
  · exact ⟨Nat.le_refl _, Nat.le_add_right _ _, [], .nil, FunD.bindsN (ps := fd37.ps) (show FunD K fd37.d.name fd37.d.qual fd37.d.params fd37.d.body fd37.d.scope [] [] a fd from F) fun _ _ _ _ _ _ us hl => match us, hl with | [_, _], _ => rfl⟩
theorem bn38 (K : PySem.W.Frag) (a : Addr) (fd : FuncData) (F : FunD K fd38.d.name fd38.d.qual fd38.d.params fd38.d.body fd38.d.scope (fd38.d.dvs K) [] a fd) (k : Nat) (hk : fd38.ars.contains k = true) : k ≤ fd38.ps.length ∧ fd38.ps.length ≤ k + (fd38.d.dvs K).length ∧ ∃ ds, Vals ((fd38.d.dvs K).drop ((fd38.d.dvs K).length - (fd38.ps.length - k))) ds ∧ Binds K fd fd38.ps ds := by
  have e : k = 2 := by simpa [fd38] using hk
  rcases e with rfl
  · exact ⟨Nat.le_refl _, Nat.le_add_right _ _, [], .nil, FunD.bindsN (ps := fd38.ps) (show FunD K fd38.d.name fd38.d.qual fd38.d.params fd38.d.body fd38.d.scope [] [] a fd from F) fun _ _ _ _ _ _ us hl => match us, hl with | [_, _], _ => rfl⟩
theorem bn39 (K : PySem.W.Frag) (a : Addr) (fd : FuncData) (F : FunD K fd39.d.name fd39.d.qual fd39.d.params fd39.d.body fd39.d.scope (fd39.d.dvs K) [] a fd) (k : Nat) (hk : fd39.ars.contains k = true) : k ≤ fd39.ps.length ∧ fd39.ps.length ≤ k + (fd39.d.dvs K).length ∧ ∃ ds, Vals ((fd39.d.dvs K).drop ((fd39.d.dvs K).length - (fd39.ps.length - k))) ds ∧ Binds K fd fd39.ps ds := by
  have e : k = 2 := by simpa [fd39] using hk
  rcases e with rfl
  · exact ⟨Nat.le_refl _, Nat.le_add_right _ _, [], .nil, FunD.bindsN (ps := fd39.ps) (show FunD K fd39.d.name fd39.d.qual fd39.d.params fd39.d.body fd39.d.scope [] [] a fd from F) fun _ _ _ _ _ _ us hl => match us, hl with | [_, _], _ => rfl⟩
theorem bn40 (K : PySem.W.Frag) (a : Addr) (fd : FuncData) (F : FunD K fd40.d.name fd40.d.qual fd40.d.params fd40.d.body fd40.d.scope (fd40.d.dvs K) [] a fd) (k : Nat) (hk : fd40.ars.contains k = true) : k ≤ fd40.ps.length ∧ fd40.ps.length ≤ k + (fd40.d.dvs K).length ∧ ∃ ds, Vals ((fd40.d.dvs K).drop ((fd40.d.dvs K).length - (fd40.ps.length - k))) ds ∧ Binds K fd fd40.ps ds := by
  have e : k = 1 := by simpa [fd40] using hk
  rcases e with rfl
  · exact ⟨Nat.le_refl _, Nat.le_add_right _ _, [], .nil, FunD.bindsN (ps := fd40.ps) (show FunD K fd40.d.name fd40.d.qual fd40.d.params fd40.d.body fd40.d.scope [] [] a fd from F) fun _ _ _ _ _ _ us hl => match us, hl with | [_], _ => rfl⟩
theorem bn41 (K : PySem.W.Frag) (a : Addr) (fd : FuncData) (F : FunD K fd41.d.name fd41.d.qual fd41.d.params fd41.d.body fd41.d.scope (fd41.d.dvs K) [] a fd) (k : Nat) (hk : fd41.ars.contains k = true) : k ≤ fd41.ps.length ∧ fd41.ps.length ≤ k + (fd41.d.dvs K).length ∧ ∃ ds, Vals ((fd41.d.dvs K).drop ((fd41.d.dvs K).length - (fd41.ps.length - k))) ds ∧ Binds K fd fd41.ps ds := by
  have e : k = 2 := by simpa [fd41] using hk
  rcases e with rfl
  · exact ⟨Nat.le_refl _, Nat.le_add_right _ _, [], .nil, FunD.bindsN (ps := fd41.ps) (show FunD K fd41.d.name fd41.d.qual fd41.d.params fd41.d.body fd41.d.scope [] [] a fd from F) fun _ _ _ _ _ _ us hl => match us, hl with | [_, _], _ => rfl⟩
theorem bn42 (K : PySem.W.Frag) (a : Addr) (fd : FuncData) (F : FunD K fd42.d.name fd42.d.qual fd42.d.params fd42.d.body fd42.d.scope (fd42.d.dvs K) [] a fd) (k : Nat) (hk : fd42.ars.contains k = true) : k ≤ fd42.ps.length ∧ fd42.ps.length ≤ k + (fd42.d.dvs K).length ∧ ∃ ds, Vals ((fd42.d.dvs K).drop ((fd42.d.dvs K).length - (fd42.ps.length - k))) ds ∧ Binds K fd fd42.ps ds := by
  have e : k = 1 := by simpa [fd42] using hk
  rcases e with rfl
  · exact ⟨Nat.le_refl _, Nat.le_add_right _ _, [], .nil, FunD.bindsN (ps := fd42.ps) (show FunD K fd42.d.name fd42.d.qual fd42.d.params fd42.d.body fd42.d.scope [] [] a fd from F) fun _ _ _ _ _ _ us hl => match us, hl with | [_], _ => rfl⟩
theorem bn43 (K : PySem.W.Frag) (a : Addr) (fd : FuncData) (F : FunD K fd43.d.name fd43.d.qual fd43.d.params fd43.d.body fd43.d.scope (fd43.d.dvs K) [] a fd) (k : Nat) (hk : fd43.ars.contains k = true) : k ≤ fd43.ps.length ∧ fd43.ps.length ≤ k + (fd43.d.dvs K).length ∧ ∃ ds, Vals ((fd43.d.dvs K).drop ((fd43.d.dvs K).length - (fd43.ps.length - k))) ds ∧ Binds K fd fd43.ps ds := by
  have e : k = 1 := by simpa [fd43] using hk
  rcases e with rfl
  · exact ⟨Nat.le_refl _, Nat.le_add_right _ _, [], .nil, FunD.bindsN (ps := fd43.ps) (show FunD K fd43.d.name fd43.d.qual fd43.d.params fd43.d.body fd43.d.scope [] [] a fd from F) fun _ _ _ _ _ _ us hl => match us, hl with | [_], _ => rfl⟩
theorem bn44 (K : PySem.W.Frag) (a : Addr) (fd : FuncData) (F : FunD K fd44.d.name fd44.d.qual fd44.d.params fd44.d.body fd44.d.scope (fd44.d.dvs K) [] a fd) (k : Nat) (hk : fd44.ars.contains k = true) : k ≤ fd44.ps.length ∧ fd44.ps.length ≤ k + (fd44.d.dvs K).length ∧ ∃ ds, Vals ((fd44.d.dvs K).drop ((fd44.d.dvs K).length - (fd44.ps.length - k))) ds ∧ Binds K fd fd44.ps ds := by
  have e : k = 1 := by simpa [fd44] using hk
  rcases e with rfl
  · exact ⟨Nat.le_refl _, Nat.le_add_right _ _, [], .nil, FunD.bindsN (ps := fd44.ps) (show FunD K fd44.d.name fd44.d.qual fd44.d.params fd44.d.body fd44.d.scope [] [] a fd from F) fun _ _ _ _ _ _ us hl => match us, hl with | [_], _ => rfl⟩
theorem bn45 (K : PySem.W.Frag) (a : Addr) (fd : FuncData) (F : FunD K fd45.d.name fd45.d.qual fd45.d.params fd45.d.body fd45.d.scope (fd45.d.dvs K) [] a fd) (k : Nat) (hk : fd45.ars.contains k = true) : k ≤ fd45.ps.length ∧ fd45.ps.length ≤ k + (fd45.d.dvs K).length ∧ ∃ ds, Vals ((fd45.d.dvs K).drop ((fd45.d.dvs K).length - (fd45.ps.length - k))) ds ∧ Binds K fd fd45.ps ds := by
  have e : k = 0 := by simpa [fd45] using hk
  rcases e with rfl
  · exact ⟨Nat.le_refl _, Nat.le_add_right _ _, [], .nil, FunD.bindsN (ps := fd45.ps) (show FunD K fd45.d.name fd45.d.qual fd45.d.params fd45.d.body fd45.d.scope [] [] a fd from F) fun _ _ _ _ _ _ us hl => match us, hl with | [], _ => rfl⟩
theorem bn46 (K : PySem.W.Frag) (a : Addr) (fd : FuncData) (F : FunD K fd46.d.name fd46.d.qual fd46.d.params fd46.d.body fd46.d.scope (fd46.d.dvs K) [] a fd) (k : Nat) (hk : fd46.ars.contains k = true) : k ≤ fd46.ps.length ∧ fd46.ps.length ≤ k + (fd46.d.dvs K).length ∧ ∃ ds, Vals ((fd46.d.dvs K).drop ((fd46.d.dvs K).length - (fd46.ps.length - k))) ds ∧ Binds K fd fd46.ps ds := by
  have e : k = 2 := by simpa [fd46] using hk
  rcases e with rfl
  · exact ⟨Nat.le_refl _, Nat.le_add_right _ _, [], .nil, FunD.bindsN (ps := fd46.ps) (show FunD K fd46.d.name fd46.d.qual fd46.d.params fd46.d.body fd46.d.scope [] [] a fd from F) fun _ _ _ _ _ _ us hl => match us, hl with | [_, _], _ => rfl⟩
theorem bn47 (K : PySem.W.Frag) (a : Addr) (fd : FuncData) (F : FunD K fd47.d.name fd47.d.qual fd47.d.params fd47.d.body fd47.d.scope (fd47.d.dvs K) [] a fd) (k : Nat) (hk : fd47.ars.contains k = true) : k ≤ fd47.ps.length ∧ fd47.ps.length ≤ k + (fd47.d.dvs K).length ∧ ∃ ds, Vals ((fd47.d.dvs K).drop ((fd47.d.dvs K).length - (fd47.ps.length - k))) ds ∧ Binds K fd fd47.ps ds := by
  have e : k = 2 := by simpa [fd47] using hk
  rcases e with rfl
  · exact ⟨Nat.le_refl _, Nat.le_add_right _ _, [], .nil, FunD.bindsN (ps := fd47.ps) (show FunD K fd47.d.name fd47.d.qual fd47.d.params fd47.d.body fd47.d.scope [] [] a fd from F) fun _ _ _ _ _ _ us hl => match us, hl with | [_, _], _ => rfl⟩
theorem bnd : BndOk table := fun i d h K a fd F k hk => match i, h with
  | 0, h => by cases (show some fd0 = some d from h); exact bn0 K a fd F k hk
  | 1, h => by cases (show some fd1 = some d from h); exact bn1 K a fd F k hk
  | 2, h => by cases (show some fd2 = some d from h); exact bn2 K a fd F k hk
  | 3, h => by cases (show some fd3 = some d from h); exact bn3 K a fd F k hk
  | 4, h => by cases (show some fd4 = some d from h); exact bn4 K a fd F k hk
  | 5, h => by cases (show some fd5 = some d from h); exact bn5 K a fd F k hk
  | 6, h => by cases (show some fd6 = some d from h); exact bn6 K a fd F k hk
  | 7, h => by cases (show some fd7 = some d from h); exact bn7 K a fd F k hk
  | 8, h => by cases (show some fd8 = some d from h); exact bn8 K a fd F k hk
  | 9, h => by cases (show some fd9 = some d from h); exact bn9 K a fd F k hk
  | 10, h => by cases (show some fd10 = some d from h); exact bn10 K a fd F k hk
  | 11, h => by cases (show some fd11 = some d from h); exact bn11 K a fd F k hk
  | 12, h => by cases (show some fd12 = some d from h); exact bn12 K a fd F k hk
  | 13, h => by cases (show some fd13 = some d from h); exact bn13 K a fd F k hk
  | 14, h => by cases (show some fd14 = some d from h); exact bn14 K a fd F k hk
  | 15, h => by cases (show some fd15 = some d from h); exact bn15 K a fd F k hk
  | 16, h => by cases (show some fd16 = some d from h); exact bn16 K a fd F k hk
  | 17, h => by cases (show some fd17 = some d from h); exact bn17 K a fd F k hk
  | 18, h => by cases (show some fd18 = some d from h); exact bn18 K a fd F k hk
  | 19, h => by cases (show some fd19 = some d from h); exact bn19 K a fd F k hk
  | 20, h => by cases (show some fd20 = some d from h); exact bn20 K a fd F k hk
  | 21, h => by cases (show some fd21 = some d from h); exact bn21 K a fd F k hk
  | 22, h => by cases (show some fd22 = some d from h); exact bn22 K a fd F k hk
  | 23, h => by cases (show some fd23 = some d from h); exact bn23 K a fd F k hk
  | 24, h => by cases (show some fd24 = some d from h); exact bn24 K a fd F k hk
  | 25, h => by cases (show some fd25 = some d from h); exact bn25 K a fd F k hk
  | 26, h => by cases (show some fd26 = some d from h); exact bn26 K a fd F k hk
  | 27, h => by cases (show some fd27 = some d from h); exact bn27 K a fd F k hk
  | 28, h => by cases (show some fd28 = some d from h); exact bn28 K a fd F k hk
  | 29, h => by cases (show some fd29 = some d from h); exact bn29 K a fd F k hk
  | 30, h => by cases (show some fd30 = some d from h); exact bn30 K a fd F k hk
  | 31, h => by cases (show some fd31 = some d from h); exact bn31 K a fd F k hk
  | 32, h => by cases (show some fd32 = some d from h); exact bn32 K a fd F k hk
  | 33, h => by cases (show some fd33 = some d from h); exact bn33 K a fd F k hk
  | 34, h => by cases (show some fd34 = some d from h); exact bn34 K a fd F k hk
  | 35, h => by cases (show some fd35 = some d from h); exact bn35 K a fd F k hk
  | 36, h => by cases (show some fd36 = some d from h); exact bn36 K a fd F k hk
  | 37, h => by cases (show some fd37 = some d from h); exact bn37 K a fd F k hk
  | 38, h => by cases (show some fd38 = some d from h); exact bn38 K a fd F k hk
  | 39, h => by cases (show some fd39 = some d from h); exact bn39 K a fd F k hk
  | 40, h => by cases (show some fd40 = some d from h); exact bn40 K a fd F k hk
  | 41, h => by cases (show some fd41 = some d from h); exact bn41 K a fd F k hk
  | 42, h => by cases (show some fd42 = some d from h); exact bn42 K a fd F k hk
  | 43, h => by cases (show some fd43 = some d from h); exact bn43 K a fd F k hk
  | 44, h => by cases (show some fd44 = some d from h); exact bn44 K a fd F k hk
  | 45, h => by cases (show some fd45 = some d from h); exact bn45 K a fd F k hk
  | 46, h => by cases (show some fd46 = some d from h); exact bn46 K a fd F k hk
  | 47, h => by cases (show some fd47 = some d from h); exact bn47 K a fd F k hk
  | n + 48, h => by cases h
theorem bndX : BndX table := fun c d i h hi kV doc pm an cdv ct cc us hl => match c, h with
  | 0, h => by cases (show some dx0 = some d from h); cases (show some ii0 = some i from hi); exact (match us, hl with | [_, _, _], _ => rfl)
  | 1, h => by cases (show some dx1 = some d from h); cases hi
  | 2, h => by cases (show some dx2 = some d from h); cases hi
  | 3, h => by cases (show some dx3 = some d from h); cases hi
  | 4, h => by cases (show some dx4 = some d from h); cases hi
  | 5, h => by cases (show some dx5 = some d from h); cases hi
  | 6, h => by cases (show some dx6 = some d from h); cases hi
  | 7, h => by cases (show some dx7 = some d from h); cases hi
  | 8, h => by cases (show some dx8 = some d from h); cases hi
  | 9, h => by cases (show some dx9 = some d from h); cases hi
  | n + 10, h => by cases h
theorem bndK : BndK table := fun g k h kV doc pm an cdv ct us hl => match g, h with
  | 0, h => by cases (show some dk0 = some k from h); exact (match us, hl with | [_], _ => rfl)
  | n + 1, h => by cases h
abbrev R : PySem.W.OpenRow := PySem.W.OpenLaw.row PySem.Challenge.rw_matchroots_k69_whole_products_as_sums
abbrev hk : PySem.W.Hook := hookM 5 table
def ob (s : PySem.W.SharedT) : AlM := obM 5 table (HandSHeadRun.getT s)
theorem ob_eq (s : PySem.W.SharedT) : ob s = hk.obs s.abs := obM_eq (HandSHeadRun.getT_eq s)
def nm0 : List PySem.Str := ["gcd", "_wall", "MatchError", "BadNumber", "BadRow", "BadItem", "TooMany", "BadPlace", "BadPlaces", "NotWhole", "NotFactor", "BadSides", "BadSizes", "is_integer", "is_count", "is_row", "power_of", "Ratio", "ratio_power", "is_number", "plain_ratio", "ratio_of", "need_numbers", "without_zeros", "part_at", "numbers_sum", "numbers_less", "numbers_times", "Poly", "value_at"]
def nm1 : List PySem.Str := ["unknown", "whole_poly", "MOST_DEGREE", "laguerre_of", "charlier_of", "need_degree", "hermite", "laguerre", "charlier", "MOST_FACTOR", "need_degrees", "parts_by", "hermite_parts", "laguerre_parts", "charlier_parts", "_law_pen", "_law_draw", "_law_pick", "_law_t_caught", "_law_choose", "_law_whole"]
section
open HandSHeadRun PySem.W PySem.Calls
theorem runA (w : World) : (wholeF (fun p => stepQ (denQ tabQ) p w) fenceQ 12000 R.prog).map (fun x => (looksF R.prog x.1.heap x.2.abs, seenQ (PySem.W.view R.prog [0, 59]) (nm0 ++ nm1) (importedModules R.prog.main.body) (fun s => xlAt (PySem.W.view R.prog [0, 59]) [] s && recOk R.toRowW.records s) x.2.abs, (ob x.2).2)) = some (true, openGood (PySem.W.view R.prog [0, 59]) (nm0 ++ nm1), (vaM table).2) := by kernel_rfl
theorem runB (w : World) : (wholeF (fun p => stepQ (denQ tabQ) p w) fenceQ 12000 R.prog).map (fun x => (ob x.2).1.1) = some (vaM table).1.1 := by kernel_rfl
theorem runC (w : World) : (wholeF (fun p => stepQ (denQ tabQ) p w) fenceQ 12000 R.prog).map (fun x => (ob x.2).1.2) = some true := by kernel_rfl
end
theorem run (w : World) : HandSHeadRun.RunEqI R (PySem.W.view R.prog [0, 59]) hk ob 12000 (nm0 ++ nm1) w := runEqI_join (n := 5) (L := table) (ob := ob) (runA w) (runB w) (runC w)
end Mi.Law

set_option Elab.async false
set_option linter.all false
set_option maxRecDepth 100000
set_option maxHeartbeats 4000000
/-! Pure: the pen. -/
namespace Mi
def kCells : List Nat := [99, 101, 108, 108, 115]
def kAt : List Nat := [97, 116]
def kDigits : List Nat := [100, 105, 103, 105, 116, 115]
def kCount : List Nat := [99, 111, 117, 110, 116]
def kFold : List Nat := [102, 111, 108, 100]
def penK (cells : List Int) (a d c f : Int) : Kv := [(kCells, .lst (cells.map .int)), (kAt, .int a), (kDigits, .int d), (kCount, .int c), (kFold, .int f)]
def bdDraw : Sms := .cons (.dset 0 [99, 111, 117, 110, 116] (.bin .add (.dget (.var 0) [99, 111, 117, 110, 116]) (.int 1))) (.cons (.iff (.and (.cons (.cmp .eq (.dget (.var 0) [100, 105, 103, 105, 116, 115]) (.int 0)) (.cons (.cmp .lt (.dget (.var 0) [97, 116]) (.len (.ex (.dget (.var 0) [99, 101, 108, 108, 115])))) .nil))) (.cons (.asg 3 (.idx (.ex (.dget (.var 0) [99, 101, 108, 108, 115])) (.dget (.var 0) [97, 116]))) (.cons (.dset 0 [97, 116] (.bin .add (.dget (.var 0) [97, 116]) (.int 1))) (.cons (.iff (.cmp .ge (.var 3) (.bin .pow (.int 10) (.int 18))) (.cons (.dset 0 [100, 105, 103, 105, 116, 115] (.bin .sub (.var 3) (.bin .pow (.int 10) (.int 18)))) .nil) (.cons (.dset 0 [102, 111, 108, 100] (.bin .mod (.intOf (.bin .add (.bin .mul (.dget (.var 0) [102, 111, 108, 100]) (.int 69069)) (.var 3))) (.int 2147483587))) .nil)) .nil))) (.nil)) (.cons (.iff (.cmp .gt (.dget (.var 0) [100, 105, 103, 105, 116, 115]) (.int 0)) (.cons (.asg 4 (.bin .mod (.intOf (.dget (.var 0) [100, 105, 103, 105, 116, 115])) (.var 1))) (.cons (.dset 0 [100, 105, 103, 105, 116, 115] (.bin .fdiv (.dget (.var 0) [100, 105, 103, 105, 116, 115]) (.var 1))) (.cons (.ret (.var 4)) .nil))) (.nil)) (.cons (.asg 2 (.bin .add (.bin .add (.dget (.var 0) [102, 111, 108, 100]) (.bin .mul (.dget (.var 0) [99, 111, 117, 110, 116]) (.int 7907))) (.int 37))) (.cons (.ret (.bin .mod (.bin .fdiv (.intOf (.bin .mod (.bin .pow (.var 2) (.int 17)) (.int 2305843009213693951))) (.int 128)) (.var 1))) .nil))))
/-- the pen in the store: bounds -/
structure PenOk (a d c f : Int) : Prop where
  a0 : 0 ≤ a
  d0 : 0 ≤ d
  c0 : 0 ≤ c
  c1 : c < 1000000000
  f0 : 0 ≤ f
  f1 : f < 2147483587
theorem getN_setN {α : Type} : ∀ {l : List α} {n : Nat} {a b : α}, getN l n = some b → getN (setN l n a) n = some a
  | _ :: _, 0, _, _, _ => rfl
  | x :: l, n + 1, a, b, h => getN_setN (l := l) (n := n) h
theorem setN_same {α : Type} : ∀ {l : List α} {n : Nat} {b : α}, getN l n = some b → setN l n b = l
  | _ :: _, 0, _, h => by cases h; rfl
  | x :: l, n + 1, b, h => by show x :: setN l n b = _; rw [setN_same (l := l) (n := n) h]
theorem setN_setN {α : Type} : ∀ {l : List α} {n : Nat} {a b : α}, setN (setN l n a) n b = setN l n b
  | [], _, _, _ => rfl
  | _ :: _, 0, _, _ => rfl
  | x :: l, n + 1, a, b => by show x :: setN (setN l n a) n b = _; rw [setN_setN]; rfl
section
variable {G : Ga}
theorem p_cells {cells : List Int} {a d c f : Int} : lookK [99, 101, 108, 108, 115] (penK cells a d c f) = some (.lst (cells.map .int)) := rfl
theorem p_at {cells : List Int} {a d c f : Int} : lookK [97, 116] (penK cells a d c f) = some (.int a) := rfl
theorem p_digits {cells : List Int} {a d c f : Int} : lookK [100, 105, 103, 105, 116, 115] (penK cells a d c f) = some (.int d) := rfl
theorem p_count {cells : List Int} {a d c f : Int} : lookK [99, 111, 117, 110, 116] (penK cells a d c f) = some (.int c) := rfl
theorem p_fold {cells : List Int} {a d c f : Int} : lookK [102, 111, 108, 100] (penK cells a d c f) = some (.int f) := rfl
theorem q_at {cells : List Int} {a d c f x : Int} : putK [97, 116] (.int x) (penK cells a d c f) = penK cells x d c f := rfl
theorem q_digits {cells : List Int} {a d c f x : Int} : putK [100, 105, 103, 105, 116, 115] (.int x) (penK cells a d c f) = penK cells a x c f := rfl
theorem q_count {cells : List Int} {a d c f x : Int} : putK [99, 111, 117, 110, 116] (.int x) (penK cells a d c f) = penK cells a d x f := rfl
theorem q_fold {cells : List Int} {a d c f x : Int} : putK [102, 111, 108, 100] (.int x) (penK cells a d c f) = penK cells a d c x := rfl
theorem pen_len {cells : List Int} {a d c f : Int} : (penK cells a d c f).length < SZ := by show 5 < 16777216; decide
/-- reading a field of the pen -/
theorem e_dget {v : Env} {S : Sto} {n : Nat} {kv : Kv} {k : List Nat} {d : D} {i : Nat} (hv : getN v i = some (.va (.dr n))) (hS : getN S n = some kv) (hk : lookK k kv = some d) : ev G (.dget (.var i) k) v S = .ok d S := by
  rw [ev, ev, hv]; simp only [R.bind, hS, Option.bind_some, hk]
theorem e_int {v : Env} {S : Sto} {n : Int} : ev G (.int n) v S = .ok (.int n) S := by rw [ev]
theorem e_var {v : Env} {S : Sto} {i : Nat} {d : D} (h : getN v i = some (.va d)) : ev G (.var i) v S = .ok d S := by rw [ev, h]
theorem e_bin {o : Bi} {a b : Ex} {v : Env} {S S1 S2 : Sto} {x y z : D} (ha : ev G a v S = .ok x S1) (hb : ev G b v S1 = .ok y S2) (hz : binop G o x y S2 = .ok z S2) : ev G (.bin o a b) v S = .ok z S2 := by
  rw [ev, ha]; simp only [R.bind, hb, hz]
theorem b_add {i j : Int} {S : Sto} : binop G .add (.int i) (.int j) S = .ok (.int (i + j)) S := rfl
theorem b_sub {i j : Int} {S : Sto} : binop G .sub (.int i) (.int j) S = .ok (.int (i - j)) S := rfl
theorem b_mul {i j : Int} {S : Sto} (h : mulOk i j = true) : binop G .mul (.int i) (.int j) S = .ok (.int (i * j)) S := by
  show (match (if mulOk i j = true then some (D.int (i * j)) else none) with | some d => R.ok d S | none => .bad) = _
  rw [if_pos h]
theorem b_fdiv {i j : Int} {S : Sto} (h : divOk j = true) : binop G .fdiv (.int i) (.int j) S = .ok (.int (i.fdiv j)) S := by
  show (match (if divOk j = true then some (D.int (i.fdiv j)) else none) with | some d => R.ok d S | none => .bad) = _
  rw [if_pos h]
theorem b_mod {i j : Int} {S : Sto} (h : j ≠ 0) : binop G .mod (.int i) (.int j) S = .ok (.int (i.fmod j)) S := by
  show (match (if j ≠ 0 then some (D.int (i.fmod j)) else none) with | some d => R.ok d S | none => .bad) = _
  rw [if_pos h]
theorem b_pow {i j : Int} {S : Sto} (h : powOk i j = true) : binop G .pow (.int i) (.int j) S = .ok (.int (i ^ j.toNat)) S := by
  show (match (if powOk i j = true then some (D.int (i ^ j.toNat)) else none) with | some d => R.ok d S | none => .bad) = _
  rw [if_pos h]
theorem x_dset {v : Env} {S S1 : Sto} {n i : Nat} {k : List Nat} {e : Ex} {kv : Kv} {d : D} (hv : getN v i = some (.va (.dr n))) (he : ev G e v S = .ok d S1) (hS : getN S1 n = some kv) (hl : kv.length < SZ) : xs1 G (.dset i k e) v S = .ok (.nx v) (setN S1 n (putK k d kv)) := by
  rw [xs1, hv]
  simp only [he, R.bind, hS]
  rw [if_pos hl]
theorem x_cons {s : Sm} {ss : Sms} {v v' : Env} {S S' : Sto} (h : xs1 G s v S = .ok (.nx v') S') : xss G (.cons s ss) v S = xss G ss v' S' := by
  rw [xss, h]; rfl
theorem x_asg {i : Nat} {e : Ex} {v : Env} {S S' : Sto} {d : D} (h : ev G e v S = .ok d S') : xs1 G (.asg i e) v S = .ok (.nx (setN v i (.va d))) S' := by
  rw [xs1, h]; rfl
theorem x_ret {e : Ex} {ss : Sms} {v : Env} {S S' : Sto} {d : D} (h : ev G e v S = .ok d S') : xss G (.cons (.ret e) ss) v S = .ok (.rt d) S' := by
  rw [xss, xs1, h]; rfl
theorem x_iff {c : Ex} {a b : Sms} {v : Env} {S S' : Sto} {t : Bool} (h : ev G c v S = .ok (.bl t) S') : xs1 G (.iff c a b) v S = if t = true then xss G a v S' else xss G b v S' := by
  rw [xs1, h]; rfl
theorem e_intOf {a : Ex} {v : Env} {S S' : Sto} {i : Int} (h : ev G a v S = .ok (.int i) S') : ev G (.intOf a) v S = .ok (.int i) S' := by rw [ev, h]; rfl
theorem e_cmp {o : Cm} {a b : Ex} {v : Env} {S S1 S2 : Sto} {x y : D} {r : Bool} (ha : ev G a v S = .ok x S1) (hb : ev G b v S1 = .ok y S2) (hr : cmpP o x y = some r) : ev G (.cmp o a b) v S = .ok (.bl r) S2 := by
  rw [ev, ha]; simp only [R.bind, hb, cmpG, hr]
theorem c_eq {i j : Int} : cmpP .eq (.int i) (.int j) = some (i == j) := rfl
theorem c_lt {i j : Int} : cmpP .lt (.int i) (.int j) = some (decide (i < j)) := rfl
theorem c_gt {i j : Int} : cmpP .gt (.int i) (.int j) = some (decide (j < i)) := rfl
theorem c_ge {i j : Int} : cmpP .ge (.int i) (.int j) = some (decide (j ≤ i)) := rfl
theorem e_and2 {a b : Ex} {v : Env} {S : Sto} {t u : Bool} (ha : ev G a v S = .ok (.bl t) S) (hb : ev G b v S = .ok (.bl u) S) : ev G (.and (.cons a (.cons b .nil))) v S = .ok (.bl (t && u)) S := by
  rw [ev, evAnd, ha]
  cases t with
  | false => rfl
  | true =>
    simp only [R.bind, asB, if_true]
    rw [evAnd, hb]
    cases u with
    | false => rfl
    | true => simp only [R.bind, asB, if_true]; rw [evAnd]; rfl
theorem e_len {e : Ex} {v : Env} {S S' : Sto} {l : List D} (h : ev G e v S = .ok (.lst l) S') : ev G (.len (.ex e)) v S = .ok (.int l.length) S' := by
  rw [ev, evq, h]; rfl
theorem e_idx {e i : Ex} {v : Env} {S S1 S2 : Sto} {l : List D} {j : Int} {d : D} (h : ev G e v S = .ok (.lst l) S1) (hi : ev G i v S1 = .ok (.int j) S2) (hd : atI l j = some d) : ev G (.idx (.ex e) i) v S = .ok d S2 := by
  rw [ev, evq, h]; simp only [R.bind, hi, hd]
theorem atI_nat {l : List D} {j : Int} (h0 : 0 ≤ j) (h1 : j < l.length) : atI l j = l[j.toNat]? := by
  unfold atI ixN
  rw [if_pos h0, if_pos h1]; rfl
theorem mulOk_l {i j : Int} (h : j.natAbs < 18446744073709551616) : mulOk i j = true := by
  unfold mulOk; simp [h]
theorem pow_big : powOk 10 18 = true := by decide +kernel
theorem ten18 : ((10 : Int) ^ (18 : Int).toNat) = 1000000000000000000 := by decide +kernel
theorem divOk_s {j : Int} (h0 : 1 ≤ j) (h1 : j < 1073741824) : divOk j = true := by
  unfold divOk
  have : j.natAbs < 1073741824 := by omega
  have h2 : j ≠ 0 := by omega
  simp [this, h2]
/-- one draw -/
theorem draw_ok {cells : List Int} {a d c f m : Int} {S : Sto} {n : Nat} (hS : getN S n = some (penK cells a d c f)) (p : PenOk a d c f) (m0 : 1 ≤ m) (m1 : m < 1073741824) :
    ∃ r a' d' f', xss G bdDraw [.va (.dr n), .va (.int m), .un, .un, .un] S = .ok (.rt (.int r)) (setN S n (penK cells a' d' (c + 1) f')) ∧ 0 ≤ r ∧ r < m ∧ 0 ≤ a' ∧ 0 ≤ d' ∧ 0 ≤ f' ∧ f' < 2147483587 := by
  unfold bdDraw
  have h0 : getN ([.va (.dr n), .va (.int m), .un, .un, .un] : Env) 0 = some (.va (.dr n)) := rfl
  rw [x_cons (x_dset h0 (e_bin (e_dget h0 hS p_count) e_int b_add) hS pen_len), q_count]
  have tail : ∀ (S2 : Sto) (v : Env) (a d f : Int), getN v 0 = some (.va (.dr n)) → getN v 1 = some (.va (.int m)) → getN S2 n = some (penK cells a d (c + 1) f) → v.length = 5 → 0 ≤ a → 0 ≤ d → 0 ≤ f → f < 2147483587 →
      ∃ r d', xss G (.cons (.iff (.cmp .gt (.dget (.var 0) [100, 105, 103, 105, 116, 115]) (.int 0)) (.cons (.asg 4 (.bin .mod (.intOf (.dget (.var 0) [100, 105, 103, 105, 116, 115])) (.var 1))) (.cons (.dset 0 [100, 105, 103, 105, 116, 115] (.bin .fdiv (.dget (.var 0) [100, 105, 103, 105, 116, 115]) (.var 1))) (.cons (.ret (.var 4)) .nil))) (.nil)) (.cons (.asg 2 (.bin .add (.bin .add (.dget (.var 0) [102, 111, 108, 100]) (.bin .mul (.dget (.var 0) [99, 111, 117, 110, 116]) (.int 7907))) (.int 37))) (.cons (.ret (.bin .mod (.bin .fdiv (.intOf (.bin .mod (.bin .pow (.var 2) (.int 17)) (.int 2305843009213693951))) (.int 128)) (.var 1))) .nil))) v S2 = .ok (.rt (.int r)) (setN S2 n (penK cells a d' (c + 1) f)) ∧ 0 ≤ r ∧ r < m ∧ 0 ≤ d' := by
    intro S2 v a d f hv0 hv1 hS2 hl ha hd hf hf1
    obtain ⟨v0, v1, v2, v3, v4, rfl⟩ : ∃ v0 v1 v2 v3 v4, v = [v0, v1, v2, v3, v4] := by
      match v, hl with
      | [v0, v1, v2, v3, v4], _ => exact ⟨v0, v1, v2, v3, v4, rfl⟩
    have e0 : v0 = .va (.dr n) := Option.some.inj hv0
    have e1 : v1 = .va (.int m) := Option.some.inj hv1
    subst e0 e1
    rw [xss, x_iff (e_cmp (e_dget hv0 hS2 p_digits) e_int c_gt)]
    by_cases z : 0 < d
    · simp only [z, decide_true, if_true]
      refine ⟨d.fmod m, d.fdiv m, ?_, Int.fmod_nonneg_of_pos _ (by omega), Int.fmod_lt_of_pos _ (by omega), ?_⟩
      · rw [x_cons (x_asg (e_bin (e_intOf (e_dget hv0 hS2 p_digits)) (e_var hv1) (b_mod (by omega))))]
        have g0 : getN (setN ([.va (.dr n), .va (.int m), v2, v3, v4] : Env) 4 (.va (.int (d.fmod m)))) 0 = some (.va (.dr n)) := rfl
        have g1 : getN (setN ([.va (.dr n), .va (.int m), v2, v3, v4] : Env) 4 (.va (.int (d.fmod m)))) 1 = some (.va (.int m)) := rfl
        rw [x_cons (x_dset g0 (e_bin (e_dget g0 hS2 p_digits) (e_var g1) (b_fdiv (divOk_s m0 m1))) hS2 pen_len), q_digits, x_ret (e_var (d := .int (d.fmod m)) rfl)]
        rfl
      · exact Int.fdiv_nonneg hd (by omega)
    · simp only [z, decide_false, Bool.false_eq_true, if_false]
      rw [xss]
      show ∃ r d', (xss G _ [.va (.dr n), .va (.int m), v2, v3, v4] S2) = _ ∧ _
      rw [x_cons (x_asg (e_bin (e_bin (e_dget hv0 hS2 p_fold) (e_bin (e_dget hv0 hS2 p_count) e_int (b_mul (mulOk_l (by decide)))) b_add) e_int b_add))]
      have g1 : getN (setN ([.va (.dr n), .va (.int m), v2, v3, v4] : Env) 2 (.va (.int (f + (c + 1) * 7907 + 37)))) 1 = some (.va (.int m)) := rfl
      have g2 : getN (setN ([.va (.dr n), .va (.int m), v2, v3, v4] : Env) 2 (.va (.int (f + (c + 1) * 7907 + 37)))) 2 = some (.va (.int (f + (c + 1) * 7907 + 37))) := rfl
      have hpow : powOk (f + (c + 1) * 7907 + 37) 17 = true := by
        have := p.c0; have := p.c1
        unfold powOk
        have : (f + (c + 1) * 7907 + 37).natAbs < 18446744073709551616 := by omega
        simp [this]
      rw [x_ret (e_bin (e_bin (e_intOf (e_bin (e_bin (e_var g2) e_int (b_pow hpow)) e_int (b_mod (by decide)))) e_int (b_fdiv (by decide +kernel))) (e_var g1) (b_mod (by omega)))]
      refine ⟨(((((f + (c + 1) * 7907 + 37) ^ (17 : Int).toNat).fmod 2305843009213693951).fdiv 128).fmod m), d, ?_, Int.fmod_nonneg_of_pos _ (by omega), Int.fmod_lt_of_pos _ (by omega), hd⟩
      rw [setN_same hS2]
  have hS1 : getN (setN S n (penK cells a d (c + 1) f)) n = some (penK cells a d (c + 1) f) := getN_setN hS
  rw [xss]
  have hlen : (cells.map D.int).length = cells.length := by simp
  rw [x_iff (e_and2 (e_cmp (e_dget h0 hS1 p_digits) e_int c_eq) (e_cmp (e_dget h0 hS1 p_at) (e_len (e_dget h0 hS1 p_cells)) c_lt))]
  by_cases z : (d == 0 && decide (a < (cells.map D.int).length)) = true
  · rw [if_pos z]
    simp only [Bool.and_eq_true, decide_eq_true_eq, beq_iff_eq] at z
    obtain ⟨z1, z2⟩ := z
    obtain ⟨cell, hcell⟩ : ∃ x, cells[a.toNat]? = some x := by
      have h := p.a0
      have : a.toNat < cells.length := by rw [hlen] at z2; omega
      exact ⟨cells[a.toNat], by simp [this]⟩
    have hat : atI (cells.map D.int) a = some (.int cell) := by
      rw [atI_nat p.a0 z2, List.getElem?_map, hcell]; rfl
    rw [x_cons (x_asg (e_idx (e_dget h0 hS1 p_cells) (e_dget h0 hS1 p_at) hat))]
    have g0 : getN (setN ([.va (.dr n), .va (.int m), .un, .un, .un] : Env) 3 (.va (.int cell))) 0 = some (.va (.dr n)) := rfl
    have g3 : getN (setN ([.va (.dr n), .va (.int m), .un, .un, .un] : Env) 3 (.va (.int cell))) 3 = some (.va (.int cell)) := rfl
    rw [x_cons (x_dset g0 (e_bin (e_dget g0 hS1 p_at) e_int b_add) hS1 pen_len), q_at, setN_setN]
    have hS2 : getN (setN S n (penK cells (a + 1) d (c + 1) f)) n = some (penK cells (a + 1) d (c + 1) f) := getN_setN hS
    rw [xss, x_iff (e_cmp (e_var g3) (e_bin e_int e_int (b_pow pow_big)) c_ge), ten18]
    by_cases y : (1000000000000000000 : Int) ≤ cell
    · simp only [y, decide_true, if_true]
      rw [x_cons (x_dset g0 (e_bin (e_var g3) (e_bin e_int e_int (b_pow pow_big)) b_sub) hS2 pen_len), q_digits, setN_setN, ten18, xss]
      have hS3 : getN (setN S n (penK cells (a + 1) (cell - 1000000000000000000) (c + 1) f)) n = some (penK cells (a + 1) (cell - 1000000000000000000) (c + 1) f) := getN_setN hS
      obtain ⟨r, d', e1, e2, e3, e4⟩ := tail _ (setN ([.va (.dr n), .va (.int m), .un, .un, .un] : Env) 3 (.va (.int cell))) (a + 1) (cell - 1000000000000000000) f rfl rfl hS3 rfl (by have := p.a0; omega) (by omega) p.f0 p.f1
      refine ⟨r, a + 1, d', f, ?_, e2, e3, by have := p.a0; omega, e4, p.f0, p.f1⟩
      rw [setN_setN] at e1
      simp only [R.bind, xss]
      exact e1
    · simp only [y, decide_false, Bool.false_eq_true, if_false]
      rw [x_cons (x_dset g0 (e_bin (e_intOf (e_bin (e_bin (e_dget g0 hS2 p_fold) e_int (b_mul (mulOk_l (by decide)))) (e_var g3) b_add)) e_int (b_mod (by decide))) hS2 pen_len), q_fold, setN_setN, xss]
      have hS3 : getN (setN S n (penK cells (a + 1) d (c + 1) ((f * 69069 + cell).fmod 2147483587))) n = some (penK cells (a + 1) d (c + 1) ((f * 69069 + cell).fmod 2147483587)) := getN_setN hS
      have k0 := Int.fmod_nonneg_of_pos (f * 69069 + cell) (b := 2147483587) (by decide)
      have k1 := Int.fmod_lt_of_pos (f * 69069 + cell) (b := 2147483587) (by decide)
      obtain ⟨r, d', e1, e2, e3, e4⟩ := tail _ (setN ([.va (.dr n), .va (.int m), .un, .un, .un] : Env) 3 (.va (.int cell))) (a + 1) d _ rfl rfl hS3 rfl (by have := p.a0; omega) p.d0 k0 k1
      refine ⟨r, a + 1, d', _, ?_, e2, e3, by have := p.a0; omega, e4, k0, k1⟩
      rw [setN_setN] at e1
      simp only [R.bind, xss]
      exact e1
  · rw [if_neg z, xss]
    obtain ⟨r, d', e1, e2, e3, e4⟩ := tail _ ([.va (.dr n), .va (.int m), .un, .un, .un] : Env) a d f rfl rfl hS1 rfl p.a0 p.d0 p.f0 p.f1
    refine ⟨r, a, d', f, ?_, e2, e3, p.a0, e4, p.f0, p.f1⟩
    rw [setN_setN] at e1
    exact e1
def bdPen : Sms := .cons (.asg 1 (.int 0)) (.cons (.for_ (.nm 2) (.seq (.ex (.var 0))) (.cons (.asg 1 (.bin .mod (.intOf (.bin .add (.bin .mul (.var 1) (.int 47)) (.var 2))) (.int 1000000007))) .nil)) (.cons (.ret (.disp [[99, 101, 108, 108, 115], [97, 116], [100, 105, 103, 105, 116, 115], [99, 111, 117, 110, 116], [102, 111, 108, 100]] (.cons (.listOf (.ex (.var 0))) (.cons (.int 0) (.cons (.int 0) (.cons (.int 0) (.cons (.var 1) .nil))))))) .nil))
theorem e_evs_nil {v : Env} {S : Sto} : evs G .nil v S = .ok [] S := by rw [evs]
theorem e_evs {e : Ex} {es : Exs} {v : Env} {S S1 S2 : Sto} {d : D} {l : List D} (h : ev G e v S = .ok d S1) (hs : evs G es v S1 = .ok l S2) : evs G (.cons e es) v S = .ok (d :: l) S2 := by
  rw [evs, h]; simp only [R.bind, hs]
theorem e_listOf {e : Ex} {v : Env} {S S' : Sto} {l : List D} (h : ev G e v S = .ok (.lst l) S') : ev G (.listOf (.ex e)) v S = .ok (.lst l) S' := by
  rw [ev, evq, h]; rfl
theorem pen_for {ns0 : D} : ∀ (ns : List Int) (f : Int) (x : Sl) (S : Sto), 0 ≤ f → f < 1000000007 → ∃ f' x', forL (fun (x : D) (v : Env) (S : Sto) => match bindPt (.nm 2) x v with | some w => xss G (.cons (.asg 1 (.bin .mod (.intOf (.bin .add (.bin .mul (.var 1) (.int 47)) (.var 2))) (.int 1000000007))) .nil) w S | none => R.bad) (ns.map .int) [.va ns0, .va (.int f), x] S = .ok (.nx [.va ns0, .va (.int f'), x']) S ∧ 0 ≤ f' ∧ f' < 1000000007
  | [], f, x, S, h0, h1 => ⟨f, x, rfl, h0, h1⟩
  | n :: ns, f, x, S, h0, h1 => by
    obtain ⟨f', x', e, g0, g1⟩ := pen_for ns ((f * 47 + n).fmod 1000000007) (.va (.int n)) S (Int.fmod_nonneg_of_pos _ (by decide)) (Int.fmod_lt_of_pos _ (by decide))
    refine ⟨f', x', ?_, g0, g1⟩
    rw [List.map_cons, forL]
    show (xss G _ [.va ns0, .va (.int f), .va (.int n)] S).bind _ = _
    rw [x_cons (x_asg (e_bin (e_intOf (e_bin (e_bin (e_var (d := .int f) rfl) e_int (b_mul (mulOk_l (by decide)))) (e_var (d := .int n) rfl) b_add)) e_int (b_mod (by decide)))), xss]
    exact e
theorem pen_ok {ns : List Int} {S : Sto} : ∃ f, xss G bdPen [.va (.lst (ns.map .int)), .un, .un] S = .ok (.rt (.dr S.length)) (S ++ [penK ns 0 0 0 f]) ∧ 0 ≤ f ∧ f < 2147483587 := by
  obtain ⟨f, x, e, h0, h1⟩ := pen_for (G := G) (ns0 := .lst (ns.map .int)) ns 0 .un S (by decide) (by decide)
  refine ⟨f, ?_, h0, by omega⟩
  unfold bdPen
  rw [x_cons (x_asg e_int)]
  have h2 : getN (setN ([.va (.lst (ns.map .int)), .un, .un] : Env) 1 (.va (.int 0))) 0 = some (.va (.lst (ns.map .int))) := rfl
  have hf : xs1 G (.for_ (.nm 2) (.seq (.ex (.var 0))) (.cons (.asg 1 (.bin .mod (.intOf (.bin .add (.bin .mul (.var 1) (.int 47)) (.var 2))) (.int 1000000007))) .nil)) (setN ([.va (.lst (ns.map .int)), .un, .un] : Env) 1 (.va (.int 0))) S = .ok (.nx [.va (.lst (ns.map .int)), .va (.int f), x]) S := by
    rw [xs1, evt, evq, e_var h2]
    exact e
  rw [x_cons hf]
  have hd : ev G (.disp [[99, 101, 108, 108, 115], [97, 116], [100, 105, 103, 105, 116, 115], [99, 111, 117, 110, 116], [102, 111, 108, 100]] (.cons (.listOf (.ex (.var 0))) (.cons (.int 0) (.cons (.int 0) (.cons (.int 0) (.cons (.var 1) .nil)))))) [.va (.lst (ns.map .int)), .va (.int f), x] S = .ok (.dr S.length) (S ++ [penK ns 0 0 0 f]) := by
    rw [ev, e_evs (e_listOf (e_var (d := .lst (ns.map .int)) rfl)) (e_evs e_int (e_evs e_int (e_evs e_int (e_evs (e_var (d := .int f) rfl) e_evs_nil))))]
    rfl
  rw [x_ret hd]
end
end Mi

set_option Elab.async false
set_option linter.all false
set_option maxRecDepth 100000
set_option maxHeartbeats 0
namespace Mi.L71
def bd0 : Sms := .cons (.asg 1 (.call 1 (.cons (.var 0) .nil))) (.cons (.par 6 false (.call 2 (.cons (.var 1) (.cons (.int 7) .nil))) 7 false (.call 2 (.cons (.var 1) (.cons (.int 7) .nil)))) (.cons (.asg 2 (.call 3 (.cons (.var 6) (.cons (.var 7) .nil)))) (.cons (.par 8 true (.reps (.lst (.cons (.int 0) .nil)) (.bin .add (.bin .add (.var 6) (.var 7)) (.int 1))) 9 false (.int 1)) (.cons (.for_ (.nm 3) (.rng1 (.bin .add (.min2 (.var 6) (.var 7)) (.int 1))) (.cons (.setI 8 (.bin .sub (.bin .add (.var 6) (.var 7)) (.bin .mul (.int 2) (.var 3))) (.bin .mul (.bin .mul (.call 4 (.cons (.var 6) (.cons (.var 3) .nil))) (.call 4 (.cons (.var 7) (.cons (.var 3) .nil)))) (.var 9))) (.cons (.asg 9 (.bin .mul (.var 9) (.bin .add (.var 3) (.int 1)))) .nil))) (.cons (.frz 8) (.cons (.iff (.or (.cons (.not (.isI (.var 2) [.tuple] false)) (.cons (.cmp .ne (.listOf (.ex (.var 2))) (.var 8)) .nil))) (.cons (.ret (.bl false)) .nil) (.nil)) (.cons (.asg 4 (.lsR1 (.bin .add (.bin .add (.var 6) (.var 7)) (.int 1)))) (.cons (.for_ (.tp [10, 11, 12]) (.seq (.ex (.lst (.cons (.tup (.cons (.var 2) (.cons (.bin .mul (.call 7 (.cons (.var 6) .nil)) (.call 7 (.cons (.var 7) .nil))) (.cons (.comp (.call 7 (.cons (.var 3) .nil)) [3] (.nm 3) (.seq (.ex (.var 4))) .no) .nil)))) (.cons (.tup (.cons (.call 5 (.cons (.var 6) (.cons (.var 7) .nil))) (.cons (.bin .mul (.call 8 (.cons (.var 6) .nil)) (.call 8 (.cons (.var 7) .nil))) (.cons (.comp (.call 8 (.cons (.var 3) .nil)) [3] (.nm 3) (.seq (.ex (.var 4))) .no) .nil)))) (.cons (.tup (.cons (.call 6 (.cons (.var 6) (.cons (.var 7) .nil))) (.cons (.bin .mul (.call 9 (.cons (.var 6) .nil)) (.call 9 (.cons (.var 7) .nil))) (.cons (.comp (.call 9 (.cons (.var 3) .nil)) [3] (.nm 3) (.seq (.ex (.var 4))) .no) .nil)))) .nil)))))) (.cons (.iff (.or (.cons (.not (.isI (.var 10) [.tuple] false)) (.cons (.cmp .ne (.len (.ex (.var 10))) (.bin .add (.bin .add (.var 6) (.var 7)) (.int 1))) (.cons (.cmp .lt (.minL (.ex (.var 10))) (.int 0)) .nil)))) (.cons (.ret (.bl false)) .nil) (.nil)) (.cons (.iff (.cmp .ne (.comp (.int 1) [15] (.nm 15) (.seq (.ex (.var 10))) (.yes (.or (.cons (.isI (.var 15) [.bool] false) (.cons (.not (.isI (.var 15) [.int] false)) .nil))))) (.lst (.nil))) (.cons (.ret (.bl false)) .nil) (.nil)) (.cons (.iff (.cmp .ne (.call 13 (.cons (.var 10) (.cons (.var 12) .nil))) (.var 11)) (.cons (.ret (.bl false)) .nil) (.nil)) .nil)))) (.cons (.asgT [13, 14] (.tup (.cons (.call 14 (.cons (.var 1) (.cons (.lst (.cons (.neg (.int 1)) (.cons (.int 7) (.cons (.non) (.cons (.bl true) (.cons (.str [50]) .nil)))))) .nil))) (.cons (.call 14 (.cons (.var 1) (.cons (.lst (.cons (.neg (.int 1)) (.cons (.int 7) (.cons (.non) (.cons (.bl true) (.cons (.str [50]) .nil)))))) .nil))) .nil)))) (.cons (.for_ (.nm 5) (.seq (.ex (.lst (.cons (.lamv 2) (.cons (.lamv 1) (.cons (.lamv 0) .nil)))))) (.cons (.iff (.cmp .ne (.actc 0 (.var 5)) (.tup (.cons (.str [110, 117, 109, 98, 101, 114]) (.cons (.str [109]) (.cons (.repr (.var 13)) .nil))))) (.cons (.ret (.bl false)) .nil) (.nil)) .nil)) (.cons (.for_ (.nm 5) (.seq (.ex (.lst (.cons (.lamv 5) (.cons (.lamv 4) (.cons (.lamv 3) .nil)))))) (.cons (.iff (.cmp .ne (.actc 0 (.var 5)) (.tup (.cons (.str [110, 117, 109, 98, 101, 114]) (.cons (.str [110]) (.cons (.repr (.var 14)) .nil))))) (.cons (.ret (.bl false)) .nil) (.nil)) .nil)) (.cons (.ret (.bl true)) .nil))))))))))))
def ff0 : Fd := ⟨1, 16, [], none, bd0, [.call 6 (.cons (.var 13) (.cons (.var 14) .nil)), .call 5 (.cons (.var 13) (.cons (.var 14) .nil)), .call 3 (.cons (.var 13) (.cons (.var 14) .nil)), .call 6 (.cons (.int 6) (.cons (.var 14) .nil)), .call 5 (.cons (.int 6) (.cons (.var 14) .nil)), .call 3 (.cons (.int 6) (.cons (.var 14) .nil))]⟩
def bd1 : Sms := .cons (.asg 1 (.int 0)) (.cons (.for_ (.nm 2) (.seq (.ex (.var 0))) (.cons (.asg 1 (.bin .mod (.intOf (.bin .add (.bin .mul (.var 1) (.int 47)) (.var 2))) (.int 1000000007))) .nil)) (.cons (.ret (.disp [[99, 101, 108, 108, 115], [97, 116], [100, 105, 103, 105, 116, 115], [99, 111, 117, 110, 116], [102, 111, 108, 100]] (.cons (.listOf (.ex (.var 0))) (.cons (.int 0) (.cons (.int 0) (.cons (.int 0) (.cons (.var 1) .nil))))))) .nil))
def ff1 : Fd := ⟨1, 3, [], none, bd1, []⟩
def bd2 : Sms := .cons (.dset 0 [99, 111, 117, 110, 116] (.bin .add (.dget (.var 0) [99, 111, 117, 110, 116]) (.int 1))) (.cons (.iff (.and (.cons (.cmp .eq (.dget (.var 0) [100, 105, 103, 105, 116, 115]) (.int 0)) (.cons (.cmp .lt (.dget (.var 0) [97, 116]) (.len (.ex (.dget (.var 0) [99, 101, 108, 108, 115])))) .nil))) (.cons (.asg 3 (.idx (.ex (.dget (.var 0) [99, 101, 108, 108, 115])) (.dget (.var 0) [97, 116]))) (.cons (.dset 0 [97, 116] (.bin .add (.dget (.var 0) [97, 116]) (.int 1))) (.cons (.iff (.cmp .ge (.var 3) (.bin .pow (.int 10) (.int 18))) (.cons (.dset 0 [100, 105, 103, 105, 116, 115] (.bin .sub (.var 3) (.bin .pow (.int 10) (.int 18)))) .nil) (.cons (.dset 0 [102, 111, 108, 100] (.bin .mod (.intOf (.bin .add (.bin .mul (.dget (.var 0) [102, 111, 108, 100]) (.int 69069)) (.var 3))) (.int 2147483587))) .nil)) .nil))) (.nil)) (.cons (.iff (.cmp .gt (.dget (.var 0) [100, 105, 103, 105, 116, 115]) (.int 0)) (.cons (.asg 4 (.bin .mod (.intOf (.dget (.var 0) [100, 105, 103, 105, 116, 115])) (.var 1))) (.cons (.dset 0 [100, 105, 103, 105, 116, 115] (.bin .fdiv (.dget (.var 0) [100, 105, 103, 105, 116, 115]) (.var 1))) (.cons (.ret (.var 4)) .nil))) (.nil)) (.cons (.asg 2 (.bin .add (.bin .add (.dget (.var 0) [102, 111, 108, 100]) (.bin .mul (.dget (.var 0) [99, 111, 117, 110, 116]) (.int 7907))) (.int 37))) (.cons (.ret (.bin .mod (.bin .fdiv (.intOf (.bin .mod (.bin .pow (.var 2) (.int 17)) (.int 2305843009213693951))) (.int 128)) (.var 1))) .nil))))
def ff2 : Fd := ⟨2, 5, [], none, bd2, []⟩
def bd3 : Sms := .cons (.exp (.call 15 (.cons (.var 0) (.cons (.var 1) .nil)))) (.cons (.ret (.call 41 (.cons (.bin .mul (.call 42 (.cons (.var 0) .nil)) (.call 42 (.cons (.var 1) .nil))) (.cons (.comp (.call 42 (.cons (.var 2) .nil)) [2] (.nm 2) (.rng1 (.bin .add (.bin .add (.var 0) (.var 1)) (.int 1))) .no) .nil)))) .nil)
def ff3 : Fd := ⟨2, 3, [], none, bd3, []⟩
def bd4 : Sms := .cons (.asg 2 (.int 1)) (.cons (.for_ (.nm 3) (.rng1 (.var 1)) (.cons (.asg 2 (.bin .fdiv (.bin .mul (.var 2) (.bin .sub (.var 0) (.var 3))) (.bin .add (.var 3) (.int 1)))) .nil)) (.cons (.ret (.ife (.cmp .le (.var 1) (.var 0)) (.var 2) (.int 0))) .nil))
def ff4 : Fd := ⟨2, 4, [], none, bd4, []⟩
def bd5 : Sms := .cons (.exp (.call 15 (.cons (.var 0) (.cons (.var 1) .nil)))) (.cons (.ret (.call 41 (.cons (.bin .mul (.call 43 (.cons (.var 0) .nil)) (.call 43 (.cons (.var 1) .nil))) (.cons (.comp (.call 43 (.cons (.var 2) .nil)) [2] (.nm 2) (.rng1 (.bin .add (.bin .add (.var 0) (.var 1)) (.int 1))) .no) .nil)))) .nil)
def ff5 : Fd := ⟨2, 3, [], none, bd5, []⟩
def bd6 : Sms := .cons (.exp (.call 15 (.cons (.var 0) (.cons (.var 1) .nil)))) (.cons (.ret (.call 41 (.cons (.bin .mul (.call 10 (.cons (.var 0) .nil)) (.call 10 (.cons (.var 1) .nil))) (.cons (.comp (.call 10 (.cons (.var 2) .nil)) [2] (.nm 2) (.rng1 (.bin .add (.bin .add (.var 0) (.var 1)) (.int 1))) .no) .nil)))) .nil)
def ff6 : Fd := ⟨2, 3, [], none, bd6, []⟩
def bd7 : Sms := .cons (.exp (.call 44 (.cons (.var 0) .nil))) (.cons (.ret (.call 42 (.cons (.var 0) .nil))) .nil)
def ff7 : Fd := ⟨1, 1, [], none, bd7, []⟩
def bd8 : Sms := .cons (.exp (.call 44 (.cons (.var 0) .nil))) (.cons (.ret (.call 43 (.cons (.var 0) .nil))) .nil)
def ff8 : Fd := ⟨1, 1, [], none, bd8, []⟩
def bd9 : Sms := .cons (.exp (.call 44 (.cons (.var 0) .nil))) (.cons (.ret (.call 10 (.cons (.var 0) .nil))) .nil)
def ff9 : Fd := ⟨1, 1, [], none, bd9, []⟩
def bd10 : Sms := .cons (.own 1 (.lst (.cons (.new 0 (.cons (.tup (.cons (.int 1) .nil)) .nil)) (.cons (.new 0 (.cons (.tup (.cons (.neg (.int 1)) (.cons (.int 1) .nil))) .nil)) .nil)))) (.cons (.for_ (.nm 2) (.rng2 (.int 1) (.var 0)) (.cons (.app 1 (.bin .sub (.bin .mul (.new 0 (.cons (.tup (.cons (.bin .sub (.neg (.var 2)) (.int 1)) (.cons (.int 1) .nil))) .nil)) (.idx (.own 1) (.var 2))) (.bin .mul (.idx (.own 1) (.bin .sub (.var 2) (.int 1))) (.var 2)))) .nil)) (.cons (.ret (.idx (.own 1) (.var 0))) .nil))
def ff10 : Fd := ⟨1, 3, [], none, bd10, []⟩
def bd11 : Sms := .cons (.ret (.isI (.var 0) [.list, .tuple] true)) .nil
def ff11 : Fd := ⟨1, 1, [], none, bd11, []⟩
def bd12 : Sms := .cons (.ret (.and (.cons (.isI (.var 0) [.int] false) (.cons (.not (.isI (.var 0) [.bool] false)) .nil)))) .nil
def ff12 : Fd := ⟨1, 1, [], none, bd12, []⟩
def bd13 : Sms := .cons (.asg 2 (.new 0 (.nil))) (.cons (.for_ (.tp [3, 4]) (.zip (.ex (.var 0)) (.ex (.var 1))) (.cons (.asg 2 (.bin .add (.var 2) (.bin .mul (.var 4) (.var 3)))) .nil)) (.cons (.ret (.var 2)) .nil))
def ff13 : Fd := ⟨2, 5, [], none, bd13, []⟩
def bd14 : Sms := .cons (.ret (.idx (.ex (.var 1)) (.call 2 (.cons (.var 0) (.cons (.len (.ex (.var 1))) .nil))))) .nil
def ff14 : Fd := ⟨2, 2, [], none, bd14, []⟩
def bd15 : Sms := .cons (.for_ (.tp [2, 3]) (.seq (.ex (.tup (.cons (.tup (.cons (.str [109]) (.cons (.var 0) .nil))) (.cons (.tup (.cons (.str [110]) (.cons (.var 1) .nil))) .nil))))) (.cons (.iff (.or (.cons (.not (.call 12 (.cons (.var 3) .nil))) (.cons (.not (.chn .le .le (.int 0) (.var 3) (.con 0))) .nil))) (.cons (.raise 0 (.cons (.var 2) (.cons (.var 3) .nil))) .nil) (.nil)) .nil)) .nil
def ff15 : Fd := ⟨2, 4, [], none, bd15, []⟩
def bd16 : Sms := .cons (.asg 1 (.len (.ex (.var 0)))) (.cons (.whl (.and (.cons (.cmp .gt (.var 1) (.int 0)) (.cons (.cmp .eq (.fld (.idx (.ex (.var 0)) (.bin .sub (.var 1) (.int 1))) 3) (.int 0)) .nil))) (.cons (.asg 1 (.bin .sub (.var 1) (.int 1))) .nil)) (.cons (.ret (.tupOf (.ex (.slc (.ex (.var 0)) .no (.yes (.var 1)))))) .nil))
def ff16 : Fd := ⟨1, 2, [], none, bd16, []⟩
def bd17 : Sms := .cons (.iff (.not (.call 11 (.cons (.var 0) .nil))) (.cons (.never) .nil) (.nil)) (.cons (.ret (.comp (.call 23 (.cons (.var 1) .nil)) [1] (.nm 1) (.seq (.ex (.var 0))) .no)) .nil)
def ff17 : Fd := ⟨1, 2, [], none, bd17, []⟩
def bd18 : Sms := .cons (.ret (.or (.cons (.call 12 (.cons (.var 0) .nil)) (.cons (.isI (.var 0) [.cls 1] false) .nil)))) .nil
def ff18 : Fd := ⟨1, 1, [], none, bd18, []⟩
def bd19 : Sms := .cons (.ret (.comp (.bin .add (.call 24 (.cons (.var 0) (.cons (.var 2) .nil))) (.call 24 (.cons (.var 1) (.cons (.var 2) .nil)))) [2] (.nm 2) (.rng1 (.max2 (.len (.ex (.var 0))) (.len (.ex (.var 1))))) .no)) .nil
def ff19 : Fd := ⟨2, 3, [], none, bd19, []⟩
def bd20 : Sms := .cons (.ret (.ife (.call 12 (.cons (.var 0) .nil)) (.new 1 (.cons (.var 0) .nil)) (.var 0))) .nil
def ff20 : Fd := ⟨1, 1, [], none, bd20, []⟩
def bd21 : Sms := .cons (.ret (.comp (.bin .sub (.call 24 (.cons (.var 0) (.cons (.var 2) .nil))) (.call 24 (.cons (.var 1) (.cons (.var 2) .nil)))) [2] (.nm 2) (.rng1 (.max2 (.len (.ex (.var 0))) (.len (.ex (.var 1))))) .no)) .nil
def ff21 : Fd := ⟨2, 3, [], none, bd21, []⟩
def bd22 : Sms := .cons (.asg 2 (.ife (.and (.cons (.cmp .gt (.len (.ex (.var 0))) (.int 0)) (.cons (.cmp .gt (.len (.ex (.var 1))) (.int 0)) .nil))) (.bin .sub (.bin .add (.len (.ex (.var 0))) (.len (.ex (.var 1)))) (.int 1)) (.int 0))) (.cons (.ret (.comp (.sum (.ex (.comp (.bin .mul (.idx (.ex (.var 0)) (.var 4)) (.idx (.ex (.var 1)) (.bin .sub (.var 3) (.var 4)))) [4] (.nm 4) (.rng1 (.len (.ex (.var 0)))) (.yes (.chn .le .lt (.int 0) (.bin .sub (.var 3) (.var 4)) (.len (.ex (.var 1)))))))) [3] (.nm 3) (.rng1 (.var 2)) .no)) .nil)
def ff22 : Fd := ⟨2, 5, [], none, bd22, []⟩
def bd23 : Sms := .cons (.iff (.not (.call 18 (.cons (.var 0) .nil))) (.cons (.never) .nil) (.nil)) (.cons (.ret (.call 20 (.cons (.var 0) .nil))) .nil)
def ff23 : Fd := ⟨1, 1, [], none, bd23, []⟩
def bd24 : Sms := .cons (.ret (.ife (.cmp .lt (.var 1) (.len (.ex (.var 0)))) (.idx (.ex (.var 0)) (.var 1)) (.new 1 (.cons (.int 0) .nil)))) .nil
def ff24 : Fd := ⟨2, 2, [], none, bd24, []⟩
def bd25 : Sms := .cons (.sfl 0 0 (.call 16 (.cons (.call 17 (.cons (.var 1) .nil)) .nil))) (.cons (.sfl 0 1 (.bin .sub (.len (.ex (.sfl 0 0))) (.int 1))) (.cons (.sfl 0 2 (.ife (.cmp .gt (.len (.ex (.sfl 0 0))) (.int 0)) (.idx (.ex (.sfl 0 0)) (.neg (.int 1))) (.non))) .nil))
def ff25 : Fd := ⟨2, 2, [.tup []], some 0, bd25, []⟩
def bd26 : Sms := .cons (.iff (.call 18 (.cons (.var 1) .nil)) (.cons (.ret (.new 0 (.cons (.call 19 (.cons (.fld (.var 0) 0) (.cons (.tup (.cons (.call 20 (.cons (.var 1) .nil)) .nil)) .nil))) .nil))) .nil) (.nil)) (.cons (.iff (.not (.isI (.var 1) [.cls 0] false)) (.cons (.never) .nil) (.nil)) (.cons (.ret (.new 0 (.cons (.call 19 (.cons (.fld (.var 0) 0) (.cons (.fld (.var 1) 0) .nil))) .nil))) .nil))
def ff26 : Fd := ⟨2, 2, [], none, bd26, []⟩
def bd27 : Sms := .cons (.iff (.call 18 (.cons (.var 1) .nil)) (.cons (.ret (.new 0 (.cons (.call 21 (.cons (.fld (.var 0) 0) (.cons (.tup (.cons (.call 20 (.cons (.var 1) .nil)) .nil)) .nil))) .nil))) .nil) (.nil)) (.cons (.iff (.not (.isI (.var 1) [.cls 0] false)) (.cons (.never) .nil) (.nil)) (.cons (.ret (.new 0 (.cons (.call 21 (.cons (.fld (.var 0) 0) (.cons (.fld (.var 1) 0) .nil))) .nil))) .nil))
def ff27 : Fd := ⟨2, 2, [], none, bd27, []⟩
def bd28 : Sms := .cons (.iff (.call 18 (.cons (.var 1) .nil)) (.cons (.ret (.new 0 (.cons (.comp (.bin .mul (.var 2) (.var 1)) [2] (.nm 2) (.seq (.ex (.fld (.var 0) 0))) .no) .nil))) .nil) (.nil)) (.cons (.iff (.not (.isI (.var 1) [.cls 0] false)) (.cons (.never) .nil) (.nil)) (.cons (.ret (.new 0 (.cons (.call 22 (.cons (.fld (.var 0) 0) (.cons (.fld (.var 1) 0) .nil))) .nil))) .nil))
def ff28 : Fd := ⟨2, 3, [], none, bd28, []⟩
def bd29 : Sms := .cons (.iff (.not (.call 18 (.cons (.var 1) .nil))) (.cons (.never) .nil) (.nil)) (.cons (.ret (.new 0 (.cons (.call 19 (.cons (.fld (.var 0) 0) (.cons (.tup (.cons (.call 20 (.cons (.var 1) .nil)) .nil)) .nil))) .nil))) .nil)
def ff29 : Fd := ⟨2, 2, [], none, bd29, []⟩
def bd30 : Sms := .cons (.iff (.not (.call 18 (.cons (.var 1) .nil))) (.cons (.never) .nil) (.nil)) (.cons (.ret (.new 0 (.cons (.call 21 (.cons (.tup (.cons (.call 20 (.cons (.var 1) .nil)) .nil)) (.cons (.fld (.var 0) 0) .nil))) .nil))) .nil)
def ff30 : Fd := ⟨2, 2, [], none, bd30, []⟩
def bd31 : Sms := .cons (.iff (.not (.call 18 (.cons (.var 1) .nil))) (.cons (.never) .nil) (.nil)) (.cons (.ret (.new 0 (.cons (.comp (.bin .mul (.var 2) (.var 1)) [2] (.nm 2) (.seq (.ex (.fld (.var 0) 0))) .no) .nil))) .nil)
def ff31 : Fd := ⟨2, 3, [], none, bd31, []⟩
def bd32 : Sms := .cons (.ret (.new 0 (.cons (.comp (.neg (.var 1)) [1] (.nm 1) (.seq (.ex (.fld (.var 0) 0))) .no) .nil))) .nil
def ff32 : Fd := ⟨1, 2, [], none, bd32, []⟩
def bd33 : Sms := .cons (.iff (.not (.call 12 (.cons (.var 1) .nil))) (.cons (.raise 0 (.cons (.str [116, 111, 112]) (.cons (.var 1) .nil))) .nil) (.nil)) (.cons (.iff (.or (.cons (.not (.call 12 (.cons (.var 2) .nil))) (.cons (.cmp .eq (.var 2) (.int 0)) .nil))) (.cons (.raise 0 (.cons (.str [98, 111, 116, 116, 111, 109]) (.cons (.var 2) .nil))) .nil) (.nil)) (.cons (.asg 3 (.ife (.cmp .gt (.var 2) (.int 0)) (.gcd (.var 1) (.var 2)) (.neg (.gcd (.var 1) (.var 2))))) (.cons (.sfl 0 3 (.bin .fdiv (.var 1) (.var 3))) (.cons (.sfl 0 4 (.bin .fdiv (.var 2) (.var 3))) (.cons (.sfl 0 5 (.bin .sub (.cmp .gt (.sfl 0 3) (.int 0)) (.cmp .lt (.sfl 0 3) (.int 0)))) (.cons (.sfl 0 6 (.cmp .eq (.sfl 0 4) (.int 1))) .nil))))))
def ff33 : Fd := ⟨3, 4, [.int 1], some 1, bd33, []⟩
def bd34 : Sms := .cons (.iff (.call 12 (.cons (.var 1) .nil)) (.cons (.ret (.new 1 (.cons (.bin .add (.fld (.var 0) 3) (.bin .mul (.var 1) (.fld (.var 0) 4))) (.cons (.fld (.var 0) 4) .nil)))) .nil) (.nil)) (.cons (.iff (.not (.isI (.var 1) [.cls 1] false)) (.cons (.never) .nil) (.nil)) (.cons (.ret (.new 1 (.cons (.bin .add (.bin .mul (.fld (.var 0) 3) (.fld (.var 1) 4)) (.bin .mul (.fld (.var 1) 3) (.fld (.var 0) 4))) (.cons (.bin .mul (.fld (.var 0) 4) (.fld (.var 1) 4)) .nil)))) .nil))
def ff34 : Fd := ⟨2, 2, [], none, bd34, []⟩
def bd35 : Sms := .cons (.iff (.call 12 (.cons (.var 1) .nil)) (.cons (.ret (.new 1 (.cons (.bin .sub (.fld (.var 0) 3) (.bin .mul (.var 1) (.fld (.var 0) 4))) (.cons (.fld (.var 0) 4) .nil)))) .nil) (.nil)) (.cons (.iff (.not (.isI (.var 1) [.cls 1] false)) (.cons (.never) .nil) (.nil)) (.cons (.ret (.new 1 (.cons (.bin .sub (.bin .mul (.fld (.var 0) 3) (.fld (.var 1) 4)) (.bin .mul (.fld (.var 1) 3) (.fld (.var 0) 4))) (.cons (.bin .mul (.fld (.var 0) 4) (.fld (.var 1) 4)) .nil)))) .nil))
def ff35 : Fd := ⟨2, 2, [], none, bd35, []⟩
def bd36 : Sms := .cons (.iff (.call 12 (.cons (.var 1) .nil)) (.cons (.ret (.new 1 (.cons (.bin .mul (.fld (.var 0) 3) (.var 1)) (.cons (.fld (.var 0) 4) .nil)))) .nil) (.nil)) (.cons (.iff (.not (.isI (.var 1) [.cls 1] false)) (.cons (.never) .nil) (.nil)) (.cons (.ret (.new 1 (.cons (.bin .mul (.fld (.var 0) 3) (.fld (.var 1) 3)) (.cons (.bin .mul (.fld (.var 0) 4) (.fld (.var 1) 4)) .nil)))) .nil))
def ff36 : Fd := ⟨2, 2, [], none, bd36, []⟩
def bd37 : Sms := .cons (.iff (.not (.call 12 (.cons (.var 1) .nil))) (.cons (.never) .nil) (.nil)) (.cons (.ret (.new 1 (.cons (.bin .add (.fld (.var 0) 3) (.bin .mul (.var 1) (.fld (.var 0) 4))) (.cons (.fld (.var 0) 4) .nil)))) .nil)
def ff37 : Fd := ⟨2, 2, [], none, bd37, []⟩
def bd38 : Sms := .cons (.iff (.not (.call 12 (.cons (.var 1) .nil))) (.cons (.never) .nil) (.nil)) (.cons (.ret (.new 1 (.cons (.bin .sub (.bin .mul (.var 1) (.fld (.var 0) 4)) (.fld (.var 0) 3)) (.cons (.fld (.var 0) 4) .nil)))) .nil)
def ff38 : Fd := ⟨2, 2, [], none, bd38, []⟩
def bd39 : Sms := .cons (.iff (.not (.call 12 (.cons (.var 1) .nil))) (.cons (.never) .nil) (.nil)) (.cons (.ret (.new 1 (.cons (.bin .mul (.fld (.var 0) 3) (.var 1)) (.cons (.fld (.var 0) 4) .nil)))) .nil)
def ff39 : Fd := ⟨2, 2, [], none, bd39, []⟩
def bd40 : Sms := .cons (.ret (.new 1 (.cons (.neg (.fld (.var 0) 3)) (.cons (.fld (.var 0) 4) .nil)))) .nil
def ff40 : Fd := ⟨1, 1, [], none, bd40, []⟩
def bd41 : Sms := .cons (.par 2 true (.reps (.lst (.cons (.int 0) .nil)) (.len (.ex (.var 1)))) 3 false (.var 0)) (.cons (.whl (.cmp .ge (.fld (.var 3) 1) (.int 0)) (.cons (.setI 2 (.fld (.var 3) 1) (.fld (.fld (.var 3) 2) 3)) (.cons (.asg 3 (.bin .sub (.var 3) (.bin .mul (.idx (.ex (.var 1)) (.fld (.var 3) 1)) (.fld (.var 3) 2)))) .nil))) (.cons (.ret (.tupOf (.own 2))) .nil))
def ff41 : Fd := ⟨2, 4, [], none, bd41, []⟩
def bd42 : Sms := .cons (.own 1 (.lst (.cons (.new 0 (.cons (.tup (.cons (.int 1) .nil)) .nil)) (.cons (.call 45 (.nil)) .nil)))) (.cons (.for_ (.nm 2) (.rng2 (.int 2) (.bin .add (.var 0) (.int 1))) (.cons (.app 1 (.bin .sub (.bin .mul (.call 45 (.nil)) (.idx (.own 1) (.bin .sub (.var 2) (.int 1)))) (.bin .mul (.idx (.own 1) (.bin .sub (.var 2) (.int 2))) (.bin .sub (.var 2) (.int 1))))) .nil)) (.cons (.ret (.idx (.own 1) (.var 0))) .nil))
def ff42 : Fd := ⟨1, 3, [], none, bd42, []⟩
def bd43 : Sms := .cons (.own 1 (.lst (.cons (.new 0 (.cons (.tup (.cons (.int 1) .nil)) .nil)) (.cons (.new 0 (.cons (.tup (.cons (.neg (.int 1)) (.cons (.int 1) .nil))) .nil)) .nil)))) (.cons (.for_ (.nm 2) (.rng2 (.int 1) (.var 0)) (.cons (.app 1 (.bin .sub (.bin .mul (.new 0 (.cons (.tup (.cons (.bin .sub (.bin .mul (.neg (.int 2)) (.var 2)) (.int 1)) (.cons (.int 1) .nil))) .nil)) (.idx (.own 1) (.var 2))) (.bin .mul (.idx (.own 1) (.bin .sub (.var 2) (.int 1))) (.bin .mul (.var 2) (.var 2))))) .nil)) (.cons (.ret (.idx (.own 1) (.var 0))) .nil))
def ff43 : Fd := ⟨1, 3, [], none, bd43, []⟩
def bd44 : Sms := .cons (.iff (.or (.cons (.not (.call 12 (.cons (.var 0) .nil))) (.cons (.not (.chn .le .le (.int 0) (.var 0) (.con 1))) .nil))) (.cons (.raise 0 (.cons (.str [110]) (.cons (.var 0) .nil))) .nil) (.nil)) .nil
def ff44 : Fd := ⟨1, 1, [], none, bd44, []⟩
def bd45 : Sms := .cons (.ret (.new 0 (.cons (.tup (.cons (.int 0) (.cons (.int 1) .nil))) .nil))) .nil
def ff45 : Fd := ⟨0, 0, [], none, bd45, []⟩
def bd46 : Sms := .cons (.ret (.and (.cons (.isI (.var 1) [.cls 0] false) (.cons (.cmp .eq (.fld (.var 0) 0) (.fld (.var 1) 0)) .nil)))) .nil
def ff46 : Fd := ⟨2, 2, [], none, bd46, []⟩
def bd47 : Sms := .cons (.ret (.and (.cons (.isI (.var 1) [.cls 1] false) (.cons (.cmp .eq (.fld (.var 0) 3) (.fld (.var 1) 3)) (.cons (.cmp .eq (.fld (.var 0) 4) (.fld (.var 1) 4)) .nil))))) .nil
def ff47 : Fd := ⟨2, 2, [], none, bd47, []⟩
def cl0 : Cl := ⟨25, [0, 1, 2], fun o => match o with | .add => some 26 | .sub => some 27 | .mul => some 28 | _ => none, fun o => match o with | .add => some 29 | .sub => some 30 | .mul => some 31 | _ => none, some 32, some 46, fun _ => none⟩
def cl1 : Cl := ⟨33, [3, 4, 5, 6], fun o => match o with | .add => some 34 | .sub => some 35 | .mul => some 36 | _ => none, fun o => match o with | .add => some 37 | .sub => some 38 | .mul => some 39 | _ => none, some 40, some 47, fun _ => none⟩
def co0 : Co := ⟨[116, 111, 108, 100], [(1, [.str [105, 116, 101, 109], .rep 8]), (2, [.str [112, 108, 97, 99, 101], .rep 8]), (3, [.str [112, 108, 97, 99, 101, 115], .rep 8]), (0, [.str [110, 117, 109, 98, 101, 114], .fld 7, .rep 8]), (4, [.str [114, 111, 119], .rep 8]), (5, [.str [115, 105, 100, 101, 115], .rep 8]), (6, [.str [115, 105, 122, 101, 115], .rep 8]), (7, [.str [109, 97, 110, 121], .fld 7, .fld 9]), (8, [.str [119, 104, 111, 108, 101]]), (9, [.str [102, 97, 99, 116, 111, 114]])]⟩
def cons : List D := [.int 6, .int 12]
def fns : List Fd := [ff0, ff1, ff2, ff3, ff4, ff5, ff6, ff7, ff8, ff9, ff10, ff11, ff12, ff13, ff14, ff15, ff16, ff17, ff18, ff19, ff20, ff21, ff22, ff23, ff24, ff25, ff26, ff27, ff28, ff29, ff30, ff31, ff32, ff33, ff34, ff35, ff36, ff37, ff38, ff39, ff40, ff41, ff42, ff43, ff44, ff45, ff46, ff47]
def clss : List Cl := [cl0, cl1]
def cos : List Co := [co0]
def xats : List (Option (List Nat)) := [some [7, 8], none, none, none, none, none, none, none, none, none]
def subs : List (List Bool) := [[true, false, false, false, false, false, false, false, false, false], [false, true, false, false, false, false, false, false, false, false], [false, false, true, false, false, false, false, false, false, false], [false, false, false, true, false, false, false, false, false, false], [false, false, false, false, true, false, false, false, false, false], [false, false, false, false, false, true, false, false, false, false], [false, false, false, false, false, false, true, false, false, false], [false, false, false, false, false, false, false, true, false, false], [false, false, false, false, false, false, false, false, true, false], [false, false, false, false, false, false, false, false, false, true]]
def xsub (c k : Nat) : Bool := (((subs[c]?).getD [])[if k < xats.length then k else 0]?).getD false
def P : Pg := { fns := fun i => fns[i]?, cls := fun c => clss[c]?, con := fun k => cons[k]?, co := fun g => cos[g]?, xat := fun c => (xats[c]?).bind id, xsub := xsub, rpr := rprP }
end Mi.L71

set_option linter.all false
set_option maxRecDepth 100000
set_option maxHeartbeats 1000000
namespace Mi.L71
open Mi
def isIntD : D → Bool
  | .int _ => true
  | _ => false
theorem is_integer_ok {G : Ga} {d : D} {S : Sto} (h : knD G d = true) : xss G bd12 [.va d] S = .ok (.rt (.bl (isIntD d))) S := by
  cases d <;> simp [bd12, xss, xs1, ev, evAnd, asB, R.bind, getN, h, knT, tyIs, isIntD]
def cN (n k i : Nat) (l : List D) (S : Sto) : R D := callN P 100000 n i l S
theorem call_is_integer {n : Nat} {d : D} {S : Sto} (h : knD (gaOf P 100000 n) d = true) : callN P 100000 (n + 1) 12 [d] S = .ok (.bl (isIntD d)) S := by
  show runF (gaOf P 100000 n) ff12 [d] S = _
  have : filled ff12 [d] = some [d] := rfl
  unfold runF
  rw [show ff12.ini = none from rfl]
  simp only [this]
  show (xss (gaOf P 100000 n) bd12 [.va d] S).bind _ = _
  rw [is_integer_ok h]
  rfl

/-- an int as a Ratio -/
def sg (t : Int) : Int := b2 (decide (0 < t)) - b2 (decide (t < 0))
def rI (t : Int) : D := .ins 1 [.int t, .int 1, .int (sg t), .bl true]
theorem ci {n : Nat} {t : Int} {S : Sto} : callN P 100000 (n + 1) 12 [.int t] S = .ok (.bl true) S := call_is_integer rfl
theorem fd1 (t : Int) : t.fdiv 1 = t := by simp
theorem ratio_init {n : Nat} {t : Int} {S : Sto} : callN P 100000 (n + 2) 33 [.int t, .int 1] S = .ok (rI t) S := by
  show runF (gaOf P 100000 (n + 1)) ff33 [.int t, .int 1] S = _
  have hf : filled ff33 (.non :: [.int t, .int 1]) = some [.non, .int t, .int 1] := rfl
  have hc : ∀ l S, (gaOf P 100000 (n + 1)).call 12 l S = callN P 100000 (n + 1) 12 l S := fun _ _ => rfl
  unfold runF
  rw [show ff33.ini = some 1 from rfl]
  simp only [hf, show (gaOf P 100000 (n + 1)).cls 1 = some cl1 from rfl]
  show (xss (gaOf P 100000 (n + 1)) bd33 [.sf 1 [], .va (.int t), .va (.int 1), .un] S).bind _ = _
  simp [bd33, xss, xs1, ev, evs, evAnd, evOr, asB, R.bind, getN, setN, hc, ci, cmpD, cmpG, cmpP, eqD, shN, eqB, binop, binP, divOk, negD, lookF, show (gaOf P 100000 (n + 1)).cls 1 = some cl1 from rfl, cl1, fd1, rI, sg, b2]

def K (n i : Nat) (l : List D) (S : Sto) : R D := callN P 100000 n i l S
theorem kd_rI {n : Nat} {t : Int} : knD (gaOf P 100000 n) (rI t) = true := rfl
theorem ri {n : Nat} {t : Int} {S : Sto} : callN P 100000 (n + 1) 12 [rI t] S = .ok (.bl false) S := call_is_integer kd_rI
theorem ml1 {a : Int} : mulOk a 1 = true := mulOk_l (by decide)
/-- Ratio(t, 1) as an expression's end -/
theorem new_ratio {n : Nat} {es : Exs} {v : Env} {S S' : Sto} {t : Int} (h : evs (gaOf P 100000 (n + 2)) es v S = .ok [.int t, .int 1] S') : ev (gaOf P 100000 (n + 2)) (.new 1 es) v S = .ok (rI t) S' := by
  rw [ev, h]
  show (R.bind ((callN P 100000 (n + 2) 33 [.int t, .int 1] S')) _) = _
  rw [ratio_init]
  rfl
theorem new_ratio1 {n : Nat} {es : Exs} {v : Env} {S S' : Sto} {t : Int} (h : evs (gaOf P 100000 (n + 2)) es v S = .ok [.int t] S') : ev (gaOf P 100000 (n + 2)) (.new 1 es) v S = .ok (rI t) S' := by
  rw [ev, h]
  show (R.bind ((callN P 100000 (n + 2) 33 [.int t] S')) _) = _
  have : callN P 100000 (n + 2) 33 [.int t] S' = callN P 100000 (n + 2) 33 [.int t, .int 1] S' := rfl
  rw [this, ratio_init]
  rfl
section
variable {G : Ga} {v : Env} {S : Sto} {i : Nat} {t : Int}
theorem f3 (c1 : G.cls 1 = some cl1) (h : getN v i = some (.va (rI t))) : ev G (.fld (.var i) 3) v S = .ok (.int t) S := by
  rw [ev, ev, h]; simp [R.bind, rI, c1, cl1, lookF]
theorem f4 (c1 : G.cls 1 = some cl1) (h : getN v i = some (.va (rI t))) : ev G (.fld (.var i) 4) v S = .ok (.int 1) S := by
  rw [ev, ev, h]; simp [R.bind, rI, c1, cl1, lookF]
theorem ty1 : tyIs (.cls 1) (rI t) = true := rfl
end
theorem ratio_add {n : Nat} {a b : Int} {S : Sto} : callN P 100000 (n + 3) 34 [rI a, rI b] S = .ok (rI (a + b)) S := by
  have hc : ∀ l S, (gaOf P 100000 (n + 2)).call 12 l S = callN P 100000 (n + 2) 12 l S := fun _ _ => rfl
  have c1 : (gaOf P 100000 (n + 2)).cls 1 = some cl1 := rfl
  show (xss (gaOf P 100000 (n + 2)) bd34 [.va (rI a), .va (rI b)] S).bind _ = _
  have a3 : ev (gaOf P 100000 (n + 2)) (.fld (.var 0) 3) [.va (rI a), .va (rI b)] S = .ok (.int a) S := f3 c1 rfl
  have a4 : ev (gaOf P 100000 (n + 2)) (.fld (.var 0) 4) [.va (rI a), .va (rI b)] S = .ok (.int 1) S := f4 c1 rfl
  have b3 : ev (gaOf P 100000 (n + 2)) (.fld (.var 1) 3) [.va (rI a), .va (rI b)] S = .ok (.int b) S := f3 c1 rfl
  have b4 : ev (gaOf P 100000 (n + 2)) (.fld (.var 1) 4) [.va (rI a), .va (rI b)] S = .ok (.int 1) S := f4 c1 rfl
  have e := new_ratio (e_evs (e_bin (e_bin a3 b4 (b_mul ml1)) (e_bin b3 a4 (b_mul ml1)) b_add) (e_evs (e_bin a4 b4 (b_mul ml1)) e_evs_nil))
  simp only [Int.mul_one] at e
  simp [bd34, xss, xs1, ↓e, ev, evs, R.bind, getN, hc, ri, asB, kd_rI, knT, ty1, c1]
theorem ratio_addi {n : Nat} {a b : Int} {S : Sto} : callN P 100000 (n + 3) 34 [rI a, .int b] S = .ok (rI (a + b)) S := by
  have hc : ∀ l S, (gaOf P 100000 (n + 2)).call 12 l S = callN P 100000 (n + 2) 12 l S := fun _ _ => rfl
  have c1 : (gaOf P 100000 (n + 2)).cls 1 = some cl1 := rfl
  show (xss (gaOf P 100000 (n + 2)) bd34 [.va (rI a), .va (.int b)] S).bind _ = _
  have a3 : ev (gaOf P 100000 (n + 2)) (.fld (.var 0) 3) [.va (rI a), .va (.int b)] S = .ok (.int a) S := f3 c1 rfl
  have a4 : ev (gaOf P 100000 (n + 2)) (.fld (.var 0) 4) [.va (rI a), .va (.int b)] S = .ok (.int 1) S := f4 c1 rfl
  have e := new_ratio (e_evs (e_bin a3 (e_bin (e_var (i := 1) (d := .int b) rfl) a4 (b_mul ml1)) b_add) (e_evs a4 e_evs_nil))
  simp only [Int.mul_one] at e
  simp [bd34, xss, xs1, ↓e, ev, evs, R.bind, getN, hc, ci, asB]
theorem ratio_mul {n : Nat} {a b : Int} {S : Sto} (h : mulOk a b = true) : callN P 100000 (n + 3) 36 [rI a, rI b] S = .ok (rI (a * b)) S := by
  have hc : ∀ l S, (gaOf P 100000 (n + 2)).call 12 l S = callN P 100000 (n + 2) 12 l S := fun _ _ => rfl
  have c1 : (gaOf P 100000 (n + 2)).cls 1 = some cl1 := rfl
  show (xss (gaOf P 100000 (n + 2)) bd36 [.va (rI a), .va (rI b)] S).bind _ = _
  have a3 : ev (gaOf P 100000 (n + 2)) (.fld (.var 0) 3) [.va (rI a), .va (rI b)] S = .ok (.int a) S := f3 c1 rfl
  have a4 : ev (gaOf P 100000 (n + 2)) (.fld (.var 0) 4) [.va (rI a), .va (rI b)] S = .ok (.int 1) S := f4 c1 rfl
  have b3 : ev (gaOf P 100000 (n + 2)) (.fld (.var 1) 3) [.va (rI a), .va (rI b)] S = .ok (.int b) S := f3 c1 rfl
  have b4 : ev (gaOf P 100000 (n + 2)) (.fld (.var 1) 4) [.va (rI a), .va (rI b)] S = .ok (.int 1) S := f4 c1 rfl
  have e := new_ratio (e_evs (e_bin a3 b3 (b_mul h)) (e_evs (e_bin a4 b4 (b_mul ml1)) e_evs_nil))
  simp [bd36, xss, xs1, ↓e, ev, evs, R.bind, getN, hc, ri, asB, kd_rI, knT, ty1, c1]
theorem ratio_muli {n : Nat} {a b : Int} {S : Sto} (h : mulOk a b = true) : callN P 100000 (n + 3) 36 [rI a, .int b] S = .ok (rI (a * b)) S := by
  have hc : ∀ l S, (gaOf P 100000 (n + 2)).call 12 l S = callN P 100000 (n + 2) 12 l S := fun _ _ => rfl
  have c1 : (gaOf P 100000 (n + 2)).cls 1 = some cl1 := rfl
  show (xss (gaOf P 100000 (n + 2)) bd36 [.va (rI a), .va (.int b)] S).bind _ = _
  have a3 : ev (gaOf P 100000 (n + 2)) (.fld (.var 0) 3) [.va (rI a), .va (.int b)] S = .ok (.int a) S := f3 c1 rfl
  have a4 : ev (gaOf P 100000 (n + 2)) (.fld (.var 0) 4) [.va (rI a), .va (.int b)] S = .ok (.int 1) S := f4 c1 rfl
  have e := new_ratio (e_evs (e_bin a3 (e_var (i := 1) (d := .int b) rfl) (b_mul h)) (e_evs a4 e_evs_nil))
  simp [bd36, xss, xs1, ↓e, ev, evs, R.bind, getN, hc, ci, asB]
theorem ratio_radd {n : Nat} {a b : Int} {S : Sto} : callN P 100000 (n + 3) 37 [rI a, .int b] S = .ok (rI (a + b)) S := by
  have hc : ∀ l S, (gaOf P 100000 (n + 2)).call 12 l S = callN P 100000 (n + 2) 12 l S := fun _ _ => rfl
  have c1 : (gaOf P 100000 (n + 2)).cls 1 = some cl1 := rfl
  show (xss (gaOf P 100000 (n + 2)) bd37 [.va (rI a), .va (.int b)] S).bind _ = _
  have a3 : ev (gaOf P 100000 (n + 2)) (.fld (.var 0) 3) [.va (rI a), .va (.int b)] S = .ok (.int a) S := f3 c1 rfl
  have a4 : ev (gaOf P 100000 (n + 2)) (.fld (.var 0) 4) [.va (rI a), .va (.int b)] S = .ok (.int 1) S := f4 c1 rfl
  have e := new_ratio (e_evs (e_bin a3 (e_bin (e_var (i := 1) (d := .int b) rfl) a4 (b_mul ml1)) b_add) (e_evs a4 e_evs_nil))
  simp only [Int.mul_one] at e
  simp [bd37, xss, xs1, ↓e, ev, evs, R.bind, getN, hc, ci, asB]
theorem ratio_sub {n : Nat} {a b : Int} {S : Sto} : callN P 100000 (n + 3) 35 [rI a, rI b] S = .ok (rI (a - b)) S := by
  have hc : ∀ l S, (gaOf P 100000 (n + 2)).call 12 l S = callN P 100000 (n + 2) 12 l S := fun _ _ => rfl
  have c1 : (gaOf P 100000 (n + 2)).cls 1 = some cl1 := rfl
  show (xss (gaOf P 100000 (n + 2)) bd35 [.va (rI a), .va (rI b)] S).bind _ = _
  have a3 : ev (gaOf P 100000 (n + 2)) (.fld (.var 0) 3) [.va (rI a), .va (rI b)] S = .ok (.int a) S := f3 c1 rfl
  have a4 : ev (gaOf P 100000 (n + 2)) (.fld (.var 0) 4) [.va (rI a), .va (rI b)] S = .ok (.int 1) S := f4 c1 rfl
  have b3 : ev (gaOf P 100000 (n + 2)) (.fld (.var 1) 3) [.va (rI a), .va (rI b)] S = .ok (.int b) S := f3 c1 rfl
  have b4 : ev (gaOf P 100000 (n + 2)) (.fld (.var 1) 4) [.va (rI a), .va (rI b)] S = .ok (.int 1) S := f4 c1 rfl
  have e := new_ratio (e_evs (e_bin (e_bin a3 b4 (b_mul ml1)) (e_bin b3 a4 (b_mul ml1)) b_sub) (e_evs (e_bin a4 b4 (b_mul ml1)) e_evs_nil))
  simp only [Int.mul_one] at e
  simp [bd35, xss, xs1, ↓e, ev, evs, R.bind, getN, hc, ri, asB, kd_rI, knT, ty1, c1]
theorem B_add {n : Nat} {a b : Int} {S : Sto} : binop (gaOf P 100000 (n + 3)) .add (rI a) (rI b) S = .ok (rI (a + b)) S := by
  show (callN P 100000 (n + 3) 34 [rI a, rI b] S).nox = _
  rw [ratio_add]; rfl
theorem B_addi {n : Nat} {a b : Int} {S : Sto} : binop (gaOf P 100000 (n + 3)) .add (rI a) (.int b) S = .ok (rI (a + b)) S := by
  show (callN P 100000 (n + 3) 34 [rI a, .int b] S).nox = _
  rw [ratio_addi]; rfl
theorem B_radd {n : Nat} {a b : Int} {S : Sto} : binop (gaOf P 100000 (n + 3)) .add (.int b) (rI a) S = .ok (rI (a + b)) S := by
  show (callN P 100000 (n + 3) 37 [rI a, .int b] S).nox = _
  rw [ratio_radd]; rfl
theorem B_sub {n : Nat} {a b : Int} {S : Sto} : binop (gaOf P 100000 (n + 3)) .sub (rI a) (rI b) S = .ok (rI (a - b)) S := by
  show (callN P 100000 (n + 3) 35 [rI a, rI b] S).nox = _
  rw [ratio_sub]; rfl
theorem B_mul {n : Nat} {a b : Int} {S : Sto} (h : mulOk a b = true) : binop (gaOf P 100000 (n + 3)) .mul (rI a) (rI b) S = .ok (rI (a * b)) S := by
  show (callN P 100000 (n + 3) 36 [rI a, rI b] S).nox = _
  rw [ratio_mul h]; rfl
theorem B_muli {n : Nat} {a b : Int} {S : Sto} (h : mulOk a b = true) : binop (gaOf P 100000 (n + 3)) .mul (rI a) (.int b) S = .ok (rI (a * b)) S := by
  show (callN P 100000 (n + 3) 36 [rI a, .int b] S).nox = _
  rw [ratio_muli h]; rfl
/-- sums of Ratios -/
theorem sum_from {n : Nat} : ∀ (l : List Int) (a : Int) (S : Sto), sumL (gaOf P 100000 (n + 3)) (l.map rI) (rI a) S = .ok (rI (a + l.sum)) S
  | [], a, S => by simp [sumL]
  | x :: l, a, S => by
    rw [List.map_cons, sumL, B_add]
    show sumL _ (l.map rI) (rI (a + x)) S = _
    rw [sum_from l (a + x) S, List.sum_cons, Int.add_assoc]
theorem sum_rI {n : Nat} {x : Int} {l : List Int} {S : Sto} : sumL (gaOf P 100000 (n + 3)) ((x :: l).map rI) (.int 0) S = .ok (rI ((x :: l).sum)) S := by
  rw [List.map_cons, sumL, B_radd]
  show sumL _ (l.map rI) (rI (x + 0)) S = _
  rw [sum_from, Int.add_zero, List.sum_cons]
/-- is_number, plain_ratio, ratio_of -/
def finF : Fl → Sto → R D := fun r S => match r with
  | .rt d => .ok d S
  | .nx _ => .ok .non S
  | _ => .bad
theorem call_run {n i : Nat} {f : Fd} {l es : List D} {S : Sto} (hf : P.fns i = some f) (hi : f.ini = none) (he : filled f l = some es) (hw : f.lams = [] := by rfl) : callN P 100000 (n + 1) i l S = (xss (gaOf P 100000 n) f.body (padU (f.ns - es.length) (es.map .va)) S).bind finF := by
  rw [callN, hf]
  show runF _ f l S = _
  unfold runF
  rw [hi, hw]
  simp only [he]
  rfl
theorem is_number_r {n : Nat} {a : Int} {S : Sto} : callN P 100000 (n + 2) 18 [rI a] S = .ok (.bl true) S := by
  have hc : ∀ l S, (gaOf P 100000 (n + 1)).call 12 l S = callN P 100000 (n + 1) 12 l S := fun _ _ => rfl
  have c1 : (gaOf P 100000 (n + 1)).cls 1 = some cl1 := rfl
  rw [call_run (n := n + 1) (f := ff18) (es := [rI a]) rfl rfl rfl]
  simp [finF, padU, ff18, bd18, xss, xs1, ev, evs, evOr, R.bind, getN, hc, ri, asB, kd_rI, knT, ty1, c1]
theorem is_number_i {n : Nat} {a : Int} {S : Sto} : callN P 100000 (n + 2) 18 [.int a] S = .ok (.bl true) S := by
  have hc : ∀ l S, (gaOf P 100000 (n + 1)).call 12 l S = callN P 100000 (n + 1) 12 l S := fun _ _ => rfl
  rw [call_run (n := n + 1) (f := ff18) (es := [.int a]) rfl rfl rfl]
  simp [finF, padU, ff18, bd18, xss, xs1, ev, evs, evOr, R.bind, getN, hc, ci, asB]
theorem plain_r {n : Nat} {a : Int} {S : Sto} : callN P 100000 (n + 3) 20 [rI a] S = .ok (rI a) S := by
  have hc : ∀ l S, (gaOf P 100000 (n + 2)).call 12 l S = callN P 100000 (n + 2) 12 l S := fun _ _ => rfl
  rw [call_run (n := n + 2) (f := ff20) (es := [rI a]) rfl rfl rfl]
  simp [finF, padU, ff20, bd20, xss, xs1, ev, evs, R.bind, getN, hc, ri, asB]
theorem plain_i {n : Nat} {a : Int} {S : Sto} : callN P 100000 (n + 3) 20 [.int a] S = .ok (rI a) S := by
  have hc : ∀ l S, (gaOf P 100000 (n + 2)).call 12 l S = callN P 100000 (n + 2) 12 l S := fun _ _ => rfl
  rw [call_run (n := n + 2) (f := ff20) (es := [.int a]) rfl rfl rfl]
  have e := new_ratio1 (n := n) (e_evs (e_var (i := 0) (v := [.va (.int a)]) (S := S) (d := .int a) rfl) e_evs_nil)
  simp [finF, padU, ff20, bd20, xss, xs1, ↓e, ev, evs, R.bind, getN, hc, ci, asB]
theorem ratio_of_r {n : Nat} {a : Int} {S : Sto} : callN P 100000 (n + 4) 23 [rI a] S = .ok (rI a) S := by
  have h1 : ∀ l S, (gaOf P 100000 (n + 3)).call 18 l S = callN P 100000 (n + 3) 18 l S := fun _ _ => rfl
  have h2 : ∀ l S, (gaOf P 100000 (n + 3)).call 20 l S = callN P 100000 (n + 3) 20 l S := fun _ _ => rfl
  rw [call_run (n := n + 3) (f := ff23) (es := [rI a]) rfl rfl rfl]
  simp [finF, padU, ff23, bd23, xss, xs1, ev, evs, R.bind, getN, h1, h2, is_number_r, plain_r, asB]
theorem ratio_of_i {n : Nat} {a : Int} {S : Sto} : callN P 100000 (n + 4) 23 [.int a] S = .ok (rI a) S := by
  have h1 : ∀ l S, (gaOf P 100000 (n + 3)).call 18 l S = callN P 100000 (n + 3) 18 l S := fun _ _ => rfl
  have h2 : ∀ l S, (gaOf P 100000 (n + 3)).call 20 l S = callN P 100000 (n + 3) 20 l S := fun _ _ => rfl
  rw [call_run (n := n + 3) (f := ff23) (es := [.int a]) rfl rfl rfl]
  simp [finF, padU, ff23, bd23, xss, xs1, ev, evs, R.bind, getN, h1, h2, is_number_i, plain_i, asB]
end Mi.L71

set_option linter.all false
set_option maxRecDepth 100000
set_option maxHeartbeats 1000000
namespace Mi.L71
open Mi
section
variable {G : Ga}
theorem compL_map {g : D → Sto → R (Option D)} {f : D → D} {S : Sto} : ∀ (m : List D), (∀ x ∈ m, g x S = .ok (some (f x)) S) → compL g m S = .ok (m.map f) S
  | [], _ => rfl
  | x :: m, h => by
    rw [compL, h x (by simp)]
    show (compL g m S).bind _ = _
    rw [compL_map m fun y hy => h y (by simp [hy])]
    rfl
/-- a comprehension without a test, over what is walked -/
theorem e_compN {e : Ex} {i : Nat} {it : Wk} {v : Env} {S : Sto} {l : List D} {f : D → D} (hi : evt G it v S = .ok l S) (hl : l.length < SZ) (h : ∀ x ∈ l, ev G e (setN (wipe v [i]) i (.va x)) S = .ok (f x) S) : ev G (.comp e [i] (.nm i) it .no) v S = .ok (.lst (l.map f)) S := by
  rw [ev, hi]
  show (if l.length < SZ then (compL _ l S).bind _ else _) = _
  rw [if_pos hl]
  refine (congrArg (fun r => R.bind r _) (compL_map (f := f) l ?_)).trans rfl
  intro x hx
  show ((evc G .no _ S).nox.bind _) = _
  rw [evc]
  simp [R.nox, R.bind, h x hx]
theorem t_seq {e : Ex} {v : Env} {S S' : Sto} {l : List D} (h : ev G e v S = .ok (.lst l) S') : evt G (.seq (.ex e)) v S = .ok l S' := by
  rw [evt, evq, h]; rfl
theorem t_seqT {e : Ex} {v : Env} {S S' : Sto} {l : List D} (h : ev G e v S = .ok (.tup l) S') : evt G (.seq (.ex e)) v S = .ok l S' := by
  rw [evt, evq, h]; rfl
end
/-- a number as a Ratio -/
def toR : D → D
  | .int a => rI a
  | d => d
def isNum (d : D) : Prop := (∃ a, d = .int a) ∨ ∃ a, d = rI a
theorem ratio_of_ok {n : Nat} {d : D} {S : Sto} (h : isNum d) : callN P 100000 (n + 4) 23 [d] S = .ok (toR d) S := by
  rcases h with ⟨a, rfl⟩ | ⟨a, rfl⟩
  · exact ratio_of_i
  · exact ratio_of_r
theorem is_row_l {n : Nat} {l : List D} {S : Sto} : callN P 100000 (n + 1) 11 [.lst l] S = .ok (.bl true) S := by
  rw [call_run (f := ff11) (es := [.lst l]) rfl rfl rfl]
  simp [finF, padU, ff11, bd11, xss, xs1, ev, evs, R.bind, getN, knD, knT, tyIs]
theorem is_row_t {n : Nat} {l : List D} {S : Sto} : callN P 100000 (n + 1) 11 [.tup l] S = .ok (.bl true) S := by
  rw [call_run (f := ff11) (es := [.tup l]) rfl rfl rfl]
  simp [finF, padU, ff11, bd11, xss, xs1, ev, evs, R.bind, getN, knD, knT, tyIs]
theorem need_numbers_l {n : Nat} {l : List D} {S : Sto} (h : ∀ d ∈ l, isNum d) (hl : l.length < SZ) : callN P 100000 (n + 5) 17 [.lst l] S = .ok (.lst (l.map toR)) S := by
  have h1 : ∀ l S, (gaOf P 100000 (n + 4)).call 11 l S = callN P 100000 (n + 4) 11 l S := fun _ _ => rfl
  have h2 : ∀ l S, (gaOf P 100000 (n + 4)).call 23 l S = callN P 100000 (n + 4) 23 l S := fun _ _ => rfl
  rw [call_run (n := n + 4) (f := ff17) (es := [.lst l]) rfl rfl rfl]
  have e : ev (gaOf P 100000 (n + 4)) (.comp (.call 23 (.cons (.var 1) .nil)) [1] (.nm 1) (.seq (.ex (.var 0))) .no) [.va (.lst l), .un] S = .ok (.lst (l.map toR)) S :=
    e_compN (t_seq (e_var rfl)) hl fun x hx => by
      simp [ev, evs, wipe, setN, getN, R.bind, h2, ratio_of_ok (h x hx)]
  simp [finF, padU, ff17, bd17, xss, xs1, ↓e, ev, evs, R.bind, getN, h1, is_row_l, asB]
theorem need_numbers_t {n : Nat} {l : List D} {S : Sto} (h : ∀ d ∈ l, isNum d) (hl : l.length < SZ) : callN P 100000 (n + 5) 17 [.tup l] S = .ok (.lst (l.map toR)) S := by
  have h1 : ∀ l S, (gaOf P 100000 (n + 4)).call 11 l S = callN P 100000 (n + 4) 11 l S := fun _ _ => rfl
  have h2 : ∀ l S, (gaOf P 100000 (n + 4)).call 23 l S = callN P 100000 (n + 4) 23 l S := fun _ _ => rfl
  rw [call_run (n := n + 4) (f := ff17) (es := [.tup l]) rfl rfl rfl]
  have e : ev (gaOf P 100000 (n + 4)) (.comp (.call 23 (.cons (.var 1) .nil)) [1] (.nm 1) (.seq (.ex (.var 0))) .no) [.va (.tup l), .un] S = .ok (.lst (l.map toR)) S :=
    e_compN (t_seqT (e_var rfl)) hl fun x hx => by
      simp [ev, evs, wipe, setN, getN, R.bind, h2, ratio_of_ok (h x hx)]
  simp [finF, padU, ff17, bd17, xss, xs1, ↓e, ev, evs, R.bind, getN, h1, is_row_t, asB]
end Mi.L71

set_option linter.all false
set_option maxRecDepth 100000
set_option maxHeartbeats 1000000
namespace Mi.L71
open Mi
section
variable {G : Ga} {v : Env} {S S' : Sto} {t : Int} {e : Ex}
theorem g3 (c1 : G.cls 1 = some cl1) (h : ev G e v S = .ok (rI t) S') : ev G (.fld e 3) v S = .ok (.int t) S' := by
  rw [ev, h]; simp [R.bind, rI, c1, cl1, lookF]
theorem g4 (c1 : G.cls 1 = some cl1) (h : ev G e v S = .ok (rI t) S') : ev G (.fld e 4) v S = .ok (.int 1) S' := by
  rw [ev, h]; simp [R.bind, rI, c1, cl1, lookF]
theorem g6 (c1 : G.cls 1 = some cl1) (h : ev G e v S = .ok (rI t) S') : ev G (.fld e 6) v S = .ok (.bl true) S' := by
  rw [ev, h]; simp [R.bind, rI, c1, cl1, lookF]
theorem e_lenT {l : List D} (h : ev G e v S = .ok (.tup l) S') : ev G (.len (.ex e)) v S = .ok (.int l.length) S' := by
  rw [ev, evq, h]; rfl
theorem e_idxT {i : Ex} {S1 S2 : Sto} {l : List D} {j : Int} {d : D} (h : ev G e v S = .ok (.tup l) S1) (hi : ev G i v S1 = .ok (.int j) S2) (hd : atI l j = some d) : ev G (.idx (.ex e) i) v S = .ok d S2 := by
  rw [ev, evq, h]; simp only [R.bind, hi, hd]
end
theorem atI_map {f : Int → D} {l : List Int} {n : Nat} {x : Int} (h : l[n]? = some x) : atI (l.map f) (n : Int) = some (f x) := by
  have hl : n < l.length := by
    rcases Nat.lt_or_ge n l.length with h1 | h1
    · exact h1
    · rw [List.getElem?_eq_none h1] at h; cases h
  rw [atI_nat (by omega) (by simpa using hl), Int.toNat_natCast, List.getElem?_map, h]; rfl
/-- how much of the first n items stays when zeros fall off the end -/
def keep (l : List Int) : Nat → Nat
  | 0 => 0
  | n + 1 => if l[n]? = some 0 then keep l n else n + 1
def trim (l : List Int) : List Int := l.take (keep l l.length)
def wzC : Ex := .and (.cons (.cmp .gt (.var 1) (.int 0)) (.cons (.cmp .eq (.fld (.idx (.ex (.var 0)) (.bin .sub (.var 1) (.int 1))) 3) (.int 0)) .nil))
theorem wz_loop {G : Ga} (c1 : G.cls 1 = some cl1) {l : List Int} {S : Sto} : ∀ (n k : Nat), n ≤ l.length → n < k →
    whlL (fun v S => (ev G wzC v S).bind fun x S => asB x S) (fun v S => xss G (.cons (.asg 1 (.bin .sub (.var 1) (.int 1))) .nil) v S) k [.va (.lst (l.map rI)), .va (.int n)] S = .ok (.nx [.va (.lst (l.map rI)), .va (.int (keep l n))]) S
  | _, 0, _, h => absurd h (by omega)
  | 0, k + 1, _, _ => by
    rw [whlL]
    simp [wzC, ev, evAnd, cmpD, cmpG, cmpP, asB, R.bind, getN, keep]
  | n + 1, k + 1, h, hk => by
    obtain ⟨x, hx⟩ : ∃ x, l[n]? = some x := ⟨l[n]'(by omega), List.getElem?_eq_getElem (by omega)⟩
    have v0 : getN ([.va (.lst (l.map rI)), .va (.int ((n + 1 : Nat) : Int))] : Env) 0 = some (.va (.lst (l.map rI))) := rfl
    have v1 : getN ([.va (.lst (l.map rI)), .va (.int ((n + 1 : Nat) : Int))] : Env) 1 = some (.va (.int ((n + 1 : Nat) : Int))) := rfl
    have e1 : ((n + 1 : Nat) : Int) - 1 = (n : Int) := by omega
    have e : ev G wzC [.va (.lst (l.map rI)), .va (.int ((n + 1 : Nat) : Int))] S = .ok (.bl (decide (0 < ((n + 1 : Nat) : Int)) && (x == 0))) S :=
      e_and2 (e_cmp (e_var v1) e_int c_gt) (e_cmp (g3 c1 (e_idx (e_var v0) (e_bin (e_var v1) e_int b_sub) (by rw [e1]; exact atI_map hx))) e_int c_eq)
    rw [whlL, e]
    have p : decide (0 < ((n + 1 : Nat) : Int)) = true := by simp
    rw [p]
    by_cases z : x = 0
    · subst z
      simp only [R.bind, asB, Bool.true_and, beq_self_eq_true, if_true]
      rw [x_cons (x_asg (e_bin (e_var v1) e_int b_sub)), e1]
      show whlL _ _ k [.va (.lst (l.map rI)), .va (.int n)] S = _
      have := wz_loop c1 (l := l) (S := S) n k (by omega) (by omega)
      rw [show (fun v S => xss G (.cons (.asg 1 (.bin .sub (.var 1) (.int 1))) .nil) v S) = _ from rfl] at this
      rw [keep, if_pos hx]
      exact this
    · have : (x == 0) = false := by simp [z]
      simp only [R.bind, asB, this, Bool.and_false, Bool.false_eq_true, if_false]
      rw [keep, if_neg]
      rw [hx]; simp [z]
theorem cut_to {l : List Int} {f : Int → D} {n : Nat} (h : n ≤ l.length) : cut (l.map f) none (some (n : Int)) = (l.take n).map f := by
  show ((l.map f).drop 0).take ((if (n : Int) < 0 then ((n : Int) + ((l.map f).length : Int)).toNat else min (n : Int).toNat (l.map f).length) - 0) = _
  rw [if_neg (by omega)]
  simp only [List.drop_zero, Int.toNat_natCast, List.length_map, Nat.sub_zero, List.map_take]
  rw [Nat.min_eq_left h]
theorem keep_le (l : List Int) : ∀ n, keep l n ≤ n
  | 0 => Nat.le_refl _
  | n + 1 => by
    rw [keep]; split
    · exact Nat.le_trans (keep_le l n) (by omega)
    · exact Nat.le_refl _
theorem without_zeros_ok {n : Nat} {l : List Int} {S : Sto} (hl : l.length < 100000) : callN P 100000 (n + 1) 16 [.lst (l.map rI)] S = .ok (.tup ((trim l).map rI)) S := by
  have c1 : (gaOf P 100000 n).cls 1 = some cl1 := rfl
  rw [call_run (n := n) (f := ff16) (es := [.lst (l.map rI)]) rfl rfl rfl]
  show (xss (gaOf P 100000 _) bd16 [.va (.lst (l.map rI)), .un] S).bind _ = _
  have v0 : getN ([.va (.lst (l.map rI)), .un] : Env) 0 = some (.va (.lst (l.map rI))) := rfl
  unfold bd16
  rw [x_cons (x_asg (e_len (e_var v0))), List.length_map]
  show (xss _ _ [.va (.lst (l.map rI)), .va (.int l.length)] S).bind _ = _
  rw [x_cons (v' := [.va (.lst (l.map rI)), .va (.int (keep l l.length))]) (S' := S) (by
    rw [xs1]
    exact wz_loop c1 l.length 100000 (Nat.le_refl _) hl)]
  rw [x_ret (d := .tup ((trim l).map rI)) (S' := S) (by
    simp [ev, evq, evk, evo, R.bind, getN, cut_to (keep_le l l.length), trim])]
  rfl
end Mi.L71

set_option linter.all false
set_option maxRecDepth 100000
set_option maxHeartbeats 1000000
namespace Mi.L71
open Mi
def numI : D → Int
  | .int a => a
  | .ins _ (.int a :: _) => a
  | _ => 0
theorem toR_num {d : D} (h : isNum d) : toR d = rI (numI d) := by
  rcases h with ⟨a, rfl⟩ | ⟨a, rfl⟩ <;> rfl
theorem isNum_i (a : Int) : isNum (.int a) := .inl ⟨a, rfl⟩
theorem isNum_r (a : Int) : isNum (rI a) := .inr ⟨a, rfl⟩
@[simp] theorem numI_r (a : Int) : numI (rI a) = a := rfl
@[simp] theorem numI_i (a : Int) : numI (.int a) = a := rfl
theorem map_toR {l : List D} (h : ∀ d ∈ l, isNum d) : l.map toR = (l.map numI).map rI := by
  rw [List.map_map]
  exact List.map_congr_left fun d hd => toR_num (h d hd)
def leadD (l : List Int) : D := if 0 < l.length then (atI (l.map rI) (-1)).getD .non else .non
/-- a Poly of its coefficients, no zero at the end -/
def pT (l : List Int) : D := .ins 0 [.tup (l.map rI), .int ((l.length : Int) - 1), leadD l]
def pZ (l : List Int) : D := pT (trim l)
theorem lead_some {l : List Int} (h : 0 < l.length) : atI (l.map rI) (-1) = some (leadD l) := by
  unfold leadD
  rw [if_pos h]
  have : ∃ x, atI (l.map rI) (-1) = some x := by
    unfold atI ixN
    rw [if_neg (by omega), if_pos (by simp; omega)]
    exact ⟨_, List.getElem?_eq_getElem (by simp; omega)⟩
  obtain ⟨x, hx⟩ := this
  rw [hx]; rfl
theorem trim_len (l : List Int) : (trim l).length ≤ l.length := by unfold trim; simp; omega
/-- Poly.__init__ -/
theorem poly_init {n : Nat} {q : D} {l : List D} {S : Sto} (hq : q = .lst l ∨ q = .tup l) (h : ∀ d ∈ l, isNum d) (hl : l.length < 100000) : callN P 100000 (n + 6) 25 [q] S = .ok (pZ (l.map numI)) S := by
  show runF (gaOf P 100000 (n + 5)) ff25 [q] S = _
  have hf : filled ff25 (.non :: [q]) = some [.non, q] := rfl
  have c0 : (gaOf P 100000 (n + 5)).cls 0 = some cl0 := rfl
  have h1 : ∀ l S, (gaOf P 100000 (n + 5)).call 17 l S = callN P 100000 (n + 5) 17 l S := fun _ _ => rfl
  have h2 : ∀ l S, (gaOf P 100000 (n + 5)).call 16 l S = callN P 100000 (n + 5) 16 l S := fun _ _ => rfl
  unfold runF
  rw [show ff25.ini = some 0 from rfl]
  simp only [hf, c0]
  show (xss (gaOf P 100000 _) bd25 [.sf 0 [], .va q] S).bind _ = _
  have hn : callN P 100000 (n + 5) 17 [q] S = .ok (.lst ((l.map numI).map rI)) S := by
    rcases hq with rfl | rfl
    · rw [need_numbers_l h (by unfold SZ; omega), map_toR h]
    · rw [need_numbers_t h (by unfold SZ; omega), map_toR h]
  have hw : callN P 100000 (n + 5) 16 [.lst ((l.map numI).map rI)] S = .ok (.tup ((trim (l.map numI)).map rI)) S := without_zeros_ok (n := n + 4) (by simpa using hl)
  generalize hm : trim (l.map numI) = m at hw
  have g0 : ∀ (e : Ex) (S' : Sto) (es : List D), ev (gaOf P 100000 (n + 5)) (.sfl 0 0) [.sf 0 (.tup (m.map rI) :: es), .va q] S' = .ok (.tup (m.map rI)) S' := by
    intro _ S' es
    simp [ev, getN, c0, cl0, lookF]
  have e1 : ev (gaOf P 100000 (n + 5)) (.call 16 (.cons (.call 17 (.cons (.var 1) .nil)) .nil)) [.sf 0 [], .va q] S = .ok (.tup (m.map rI)) S := by
    simp only [ev, evs, R.bind, getN, h1, h2, hn, hw]
  have x1 : xs1 (gaOf P 100000 (n + 5)) (.sfl 0 0 (.call 16 (.cons (.call 17 (.cons (.var 1) .nil)) .nil))) [.sf 0 [], .va q] S = .ok (.nx [.sf 0 [.tup (m.map rI)], .va q]) S := by
    simp [xs1, e1, R.bind, getN, setN, c0, cl0]
  have x2 : xs1 (gaOf P 100000 (n + 5)) (.sfl 0 1 (.bin .sub (.len (.ex (.sfl 0 0))) (.int 1))) [.sf 0 [.tup (m.map rI)], .va q] S = .ok (.nx [.sf 0 [.tup (m.map rI), .int ((m.length : Int) - 1)], .va q]) S := by
    have := e_bin (G := gaOf P 100000 (n + 5)) (e_lenT (g0 .non S [])) (e_int (n := 1)) b_sub
    simp [xs1, this, R.bind, getN, setN, c0, cl0]
  have x3 : xs1 (gaOf P 100000 (n + 5)) (.sfl 0 2 (.ife (.cmp .gt (.len (.ex (.sfl 0 0))) (.int 0)) (.idx (.ex (.sfl 0 0)) (.neg (.int 1))) (.non))) [.sf 0 [.tup (m.map rI), .int ((m.length : Int) - 1)], .va q] S = .ok (.nx [.sf 0 [.tup (m.map rI), .int ((m.length : Int) - 1), leadD m], .va q]) S := by
    have a : ev (gaOf P 100000 (n + 5)) (.ife (.cmp .gt (.len (.ex (.sfl 0 0))) (.int 0)) (.idx (.ex (.sfl 0 0)) (.neg (.int 1))) (.non)) [.sf 0 [.tup (m.map rI), .int ((m.length : Int) - 1)], .va q] S = .ok (leadD m) S := by
      rw [ev, e_cmp (e_lenT (g0 .non S _)) e_int c_gt]
      by_cases z : 0 < m.length
      · have : decide ((0 : Int) < ((m.map rI).length : Int)) = true := by simpa using z
        rw [this]
        simp only [R.bind, asB, if_true]
        exact e_idxT (g0 .non S _) (j := -1) (by simp [ev, negD, R.bind]) (lead_some z)
      · have : decide ((0 : Int) < ((m.map rI).length : Int)) = false := by simp at z ⊢; omega
        rw [this]
        simp only [R.bind, asB, Bool.false_eq_true, if_false]
        rw [ev, leadD, if_neg z]
    simp [xs1, a, R.bind, getN, setN, c0, cl0]
  unfold bd25
  rw [x_cons x1, x_cons x2, x_cons x3]
  simp [xss, R.bind, cl0, pZ, pT, hm]
end Mi.L71

set_option linter.all false
set_option maxRecDepth 100000
set_option maxHeartbeats 1000000
namespace Mi.L71
open Mi
theorem upto_map : ∀ (n : Nat) (i : Int), upto n i = (List.range n).map fun (k : Nat) => D.int (i + (k : Int))
  | 0, _ => rfl
  | n + 1, i => by
    rw [upto, upto_map n (i + 1), List.range_succ_eq_map, List.map_cons, List.map_map]
    congr 1
    · simp
    · apply List.map_congr_left
      intro k _
      show D.int (i + 1 + (k : Int)) = D.int (i + ((k + 1 : Nat) : Int))
      congr 1; omega
theorem upto_0 (n : Nat) : upto n 0 = (List.range n).map fun (k : Nat) => D.int (k : Int) := by
  rw [upto_map]; apply List.map_congr_left; intro k _; simp
theorem mem_upto {n : Nat} {d : D} (h : d ∈ upto n 0) : ∃ k, k < n ∧ d = .int (k : Int) := by
  rw [upto_0] at h
  obtain ⟨k, h1, h2⟩ := List.mem_map.1 h
  exact ⟨k, by simpa using h1, h2.symm⟩
section
variable {G : Ga} {v : Env} {S S' : Sto} {e : Ex}
theorem t_rng {n : Nat} (h : ev G e v S = .ok (.int (n : Int)) S') (hn : n < 100000) : evt G (.rng1 e) v S = .ok (upto n 0) S' := by
  rw [evt, h]
  have hj : ∀ j : Int, -4611686018427387904 ≤ j → j < 4611686018427387904 → (R.ok (D.int j) S').bind (fun x S => match x with
    | .int j => if -4611686018427387904 ≤ j ∧ j < 4611686018427387904 then R.ok (upto j.toNat 0) S else .bad
    | _ => .bad) = .ok (upto j.toNat 0) S' := fun j h1 h2 => if_pos ⟨h1, h2⟩
  have e : (n : Int).toNat = n := Int.toNat_natCast n
  have := hj (n : Int) (by omega) (by omega)
  rw [e] at this
  exact this
/-- a comprehension over range(n) -/
theorem e_compR {f : Nat → D} {i n : Nat} {b : Ex} (h : ev G b v S = .ok (.int (n : Int)) S) (hn : n < 100000) (hf : ∀ k, k < n → ev G e (setN (wipe v [i]) i (.va (.int (k : Int)))) S = .ok (f k) S) : ev G (.comp e [i] (.nm i) (.rng1 b) .no) v S = .ok (.lst ((List.range n).map f)) S := by
  have := e_compN (G := G) (e := e) (i := i) (f := fun d => f ((numI d).toNat)) (t_rng h hn) (by rw [upto_0]; simp [SZ]; omega) (fun x hx => by
    obtain ⟨k, hk, rfl⟩ := mem_upto hx
    simpa using hf k hk)
  rw [this, upto_0, List.map_map]
  congr 2
theorem compL_filter {g : D → Sto → R (Option D)} {f : D → Option D} {S : Sto} : ∀ (m : List D), (∀ x ∈ m, g x S = .ok (f x) S) → compL g m S = .ok (m.filterMap f) S
  | [], _ => rfl
  | x :: m, h => by
    rw [compL, h x (by simp)]
    show (compL g m S).bind _ = _
    rw [compL_filter m fun y hy => h y (by simp [hy])]
    cases hx : f x <;> simp [R.bind, List.filterMap_cons, hx]
theorem e_compF {f : Nat → D} {p : Nat → Bool} {i n : Nat} {b c : Ex} (h : ev G b v S = .ok (.int (n : Int)) S) (hn : n < 100000) (hc : ∀ k, k < n → ev G c (setN (wipe v [i]) i (.va (.int (k : Int)))) S = .ok (.bl (p k)) S) (hf : ∀ k, k < n → p k = true → ev G e (setN (wipe v [i]) i (.va (.int (k : Int)))) S = .ok (f k) S) : ev G (.comp e [i] (.nm i) (.rng1 b) (.yes c)) v S = .ok (.lst ((List.range n).filterMap fun k => if p k = true then some (f k) else none)) S := by
  rw [ev, t_rng h hn]
  show (if (upto n 0).length < SZ then (compL _ (upto n 0) S).bind _ else _) = _
  rw [if_pos (by rw [upto_0]; simp [SZ]; omega)]
  refine (congrArg (fun r => R.bind r _) (compL_filter (f := fun d => if p ((numI d).toNat) = true then some (f ((numI d).toNat)) else none) (upto n 0) ?_)).trans ?_
  · intro x hx
    obtain ⟨k, hk, rfl⟩ := mem_upto hx
    show ((evc G (.yes c) _ S).nox.bind _) = _
    rw [evc]
    have e1 := hc k hk
    cases hp : p k with
    | true =>
      have e2 := hf k hk hp
      rw [hp] at e1
      simp [e1, e2, asB, R.nox, R.bind, hp]
    | false =>
      rw [hp] at e1
      simp [e1, asB, R.nox, R.bind, hp]
  · show R.ok _ _ = _
    rw [upto_0, List.filterMap_map]
    congr 2
end
/-- the coefficient at i, 0 past the end -/
def co (l : List Int) (i : Nat) : Int := l.getD i 0
theorem part_at_ok {n : Nat} {q : D} {l : List Int} {i : Nat} {S : Sto} (hq : q = .lst (l.map rI) ∨ q = .tup (l.map rI)) : callN P 100000 (n + 3) 24 [q, .int (i : Int)] S = .ok (rI (co l i)) S := by
  rw [call_run (n := n + 2) (f := ff24) (es := [q, .int (i : Int)]) rfl rfl rfl]
  show (xss (gaOf P 100000 _) bd24 [.va q, .va (.int i)] S).bind _ = _
  have v0 : ev (gaOf P 100000 (n + 2)) (.var 0) [.va q, .va (.int (i : Int))] S = .ok q S := e_var rfl
  have v1 : ev (gaOf P 100000 (n + 2)) (.var 1) [.va q, .va (.int (i : Int))] S = .ok (.int (i : Int)) S := e_var rfl
  have l0 : ev (gaOf P 100000 (n + 2)) (.len (.ex (.var 0))) [.va q, .va (.int (i : Int))] S = .ok (.int (l.length : Int)) S := by
    rcases hq with rfl | rfl
    · have := e_len v0; simpa using this
    · have := e_lenT v0; simpa using this
  have e : ev (gaOf P 100000 (n + 2)) (.ife (.cmp .lt (.var 1) (.len (.ex (.var 0)))) (.idx (.ex (.var 0)) (.var 1)) (.new 1 (.cons (.int 0) .nil))) [.va q, .va (.int (i : Int))] S = .ok (rI (co l i)) S := by
    rw [ev, e_cmp v1 l0 c_lt]
    by_cases z : i < l.length
    · have : decide ((i : Int) < (l.length : Int)) = true := by simpa using z
      rw [this]
      simp only [R.bind, asB, if_true]
      have a : atI (l.map rI) (i : Int) = some (rI (co l i)) := atI_map (by simp [co, z])
      rcases hq with rfl | rfl
      · exact e_idx v0 v1 a
      · exact e_idxT v0 v1 a
    · have : decide ((i : Int) < (l.length : Int)) = false := by simpa using z
      rw [this]
      simp only [R.bind, asB, Bool.false_eq_true, if_false]
      have : co l i = 0 := by simp [co]; simp [List.getElem?_eq_none (Nat.le_of_not_lt z)]
      rw [this]
      exact new_ratio1 (n := n) (e_evs e_int e_evs_nil)
  unfold bd24
  rw [x_ret e]
  rfl
theorem max_nat {a b : Nat} : (if (b : Int) > (a : Int) then (b : Int) else (a : Int)) = ((max a b : Nat) : Int) := by
  split <;> omega
def addZ (a b : List Int) : List Int := (List.range (max a.length b.length)).map fun i => co a i + co b i
def subZ (a b : List Int) : List Int := (List.range (max a.length b.length)).map fun i => co a i - co b i
section
variable {n : Nat} {p q : D} {a b : List Int} {S : Sto}
theorem numbers_less_ok (hp : p = .lst (a.map rI) ∨ p = .tup (a.map rI)) (hq : q = .lst (b.map rI) ∨ q = .tup (b.map rI)) (ha : a.length < 100000) (hb : b.length < 100000) : callN P 100000 (n + 4) 21 [p, q] S = .ok (.lst ((subZ a b).map rI)) S := by
  rw [call_run (n := n + 3) (f := ff21) (es := [p, q]) rfl rfl rfl]
  show (xss (gaOf P 100000 _) bd21 [.va p, .va q, .un] S).bind _ = _
  have h1 : ∀ l S, (gaOf P 100000 (n + 3)).call 24 l S = callN P 100000 (n + 3) 24 l S := fun _ _ => rfl
  have la : ev (gaOf P 100000 (n + 3)) (.len (.ex (.var 0))) [.va p, .va q, .un] S = .ok (.int (a.length : Int)) S := by
    rcases hp with rfl | rfl
    · have := e_len (G := gaOf P 100000 (n + 3)) (e_var (i := 0) (v := [.va (.lst (a.map rI)), .va q, .un]) (S := S) rfl); simpa using this
    · have := e_lenT (G := gaOf P 100000 (n + 3)) (e_var (i := 0) (v := [.va (.tup (a.map rI)), .va q, .un]) (S := S) rfl); simpa using this
  have lb : ev (gaOf P 100000 (n + 3)) (.len (.ex (.var 1))) [.va p, .va q, .un] S = .ok (.int (b.length : Int)) S := by
    rcases hq with rfl | rfl
    · have := e_len (G := gaOf P 100000 (n + 3)) (e_var (i := 1) (v := [.va p, .va (.lst (b.map rI)), .un]) (S := S) rfl); simpa using this
    · have := e_lenT (G := gaOf P 100000 (n + 3)) (e_var (i := 1) (v := [.va p, .va (.tup (b.map rI)), .un]) (S := S) rfl); simpa using this
  have m : ev (gaOf P 100000 (n + 3)) (.max2 (.len (.ex (.var 0))) (.len (.ex (.var 1)))) [.va p, .va q, .un] S = .ok (.int ((max a.length b.length : Nat) : Int)) S := by
    rw [ev, la]; simp only [R.bind, lb]; rw [max_nat]
  unfold bd21
  rw [x_ret (e_compR (f := fun k => rI (co a k - co b k)) m (by omega) fun k hk => e_bin (x := rI (co a k)) (y := rI (co b k)) (S1 := S) (by
      simp [ev, evs, R.bind, getN, setN, wipe, h1, part_at_ok hp]) (by
      simp [ev, evs, R.bind, getN, setN, wipe, h1, part_at_ok hq]) B_sub)]
  simp [R.bind, finF, subZ]
theorem numbers_sum_ok (hp : p = .lst (a.map rI) ∨ p = .tup (a.map rI)) (hq : q = .lst (b.map rI) ∨ q = .tup (b.map rI)) (ha : a.length < 100000) (hb : b.length < 100000) : callN P 100000 (n + 4) 19 [p, q] S = .ok (.lst ((addZ a b).map rI)) S := by
  rw [call_run (n := n + 3) (f := ff19) (es := [p, q]) rfl rfl rfl]
  show (xss (gaOf P 100000 _) bd19 [.va p, .va q, .un] S).bind _ = _
  have h1 : ∀ l S, (gaOf P 100000 (n + 3)).call 24 l S = callN P 100000 (n + 3) 24 l S := fun _ _ => rfl
  have la : ev (gaOf P 100000 (n + 3)) (.len (.ex (.var 0))) [.va p, .va q, .un] S = .ok (.int (a.length : Int)) S := by
    rcases hp with rfl | rfl
    · have := e_len (G := gaOf P 100000 (n + 3)) (e_var (i := 0) (v := [.va (.lst (a.map rI)), .va q, .un]) (S := S) rfl); simpa using this
    · have := e_lenT (G := gaOf P 100000 (n + 3)) (e_var (i := 0) (v := [.va (.tup (a.map rI)), .va q, .un]) (S := S) rfl); simpa using this
  have lb : ev (gaOf P 100000 (n + 3)) (.len (.ex (.var 1))) [.va p, .va q, .un] S = .ok (.int (b.length : Int)) S := by
    rcases hq with rfl | rfl
    · have := e_len (G := gaOf P 100000 (n + 3)) (e_var (i := 1) (v := [.va p, .va (.lst (b.map rI)), .un]) (S := S) rfl); simpa using this
    · have := e_lenT (G := gaOf P 100000 (n + 3)) (e_var (i := 1) (v := [.va p, .va (.tup (b.map rI)), .un]) (S := S) rfl); simpa using this
  have m : ev (gaOf P 100000 (n + 3)) (.max2 (.len (.ex (.var 0))) (.len (.ex (.var 1)))) [.va p, .va q, .un] S = .ok (.int ((max a.length b.length : Nat) : Int)) S := by
    rw [ev, la]; simp only [R.bind, lb]; rw [max_nat]
  unfold bd19
  rw [x_ret (e_compR (f := fun k => rI (co a k + co b k)) m (by omega) fun k hk => e_bin (x := rI (co a k)) (y := rI (co b k)) (S1 := S) (by
      simp [ev, evs, R.bind, getN, setN, wipe, h1, part_at_ok hp]) (by
      simp [ev, evs, R.bind, getN, setN, wipe, h1, part_at_ok hq]) B_add)]
  simp [R.bind, finF, addZ]
end
end Mi.L71

set_option linter.all false
set_option maxRecDepth 100000
set_option maxHeartbeats 1000000
namespace Mi.L71
open Mi
def small (l : List Int) : Bool := l.all fun x => decide (x.natAbs < 18446744073709551616)
theorem small_co {l : List Int} (h : small l = true) (i : Nat) : (co l i).natAbs < 18446744073709551616 := by
  unfold co
  rw [List.getD_eq_getElem?_getD]
  cases hx : l[i]? with
  | none => simp
  | some x =>
    have := List.all_eq_true.1 h x (List.mem_of_getElem? hx)
    simpa using this
def cvP (b : List Int) (d i : Nat) : Bool := decide (i ≤ d) && decide (d - i < b.length)
def cvL (a b : List Int) (d : Nat) : List Int := (List.range a.length).filterMap fun i => if cvP b d i = true then some (co a i * co b (d - i)) else none
def mulZ (a b : List Int) : List Int := if 0 < a.length ∧ 0 < b.length then (List.range (a.length + b.length - 1)).map fun d => (cvL a b d).sum else []
def sumD : List Int → D
  | [] => .int 0
  | l => rI l.sum
theorem sumD_num (l : List Int) : isNum (sumD l) := by
  cases l with
  | nil => exact isNum_i 0
  | cons x l => exact isNum_r _
theorem sumD_val (l : List Int) : numI (sumD l) = l.sum := by
  cases l <;> rfl
theorem sumD_ok {n : Nat} (l : List Int) (S : Sto) : sumL (gaOf P 100000 (n + 3)) (l.map rI) (.int 0) S = .ok (sumD l) S := by
  cases l with
  | nil => rfl
  | cons x l => exact sum_rI
section
variable {n : Nat} {a b : List Int} {S : Sto}
theorem times_in {d : Nat} {w : Sl} (hs : small b = true) (ha : a.length < 100000) : ev (gaOf P 100000 (n + 3)) (.sum (.ex (.comp (.bin .mul (.idx (.ex (.var 0)) (.var 4)) (.idx (.ex (.var 1)) (.bin .sub (.var 3) (.var 4)))) [4] (.nm 4) (.rng1 (.len (.ex (.var 0)))) (.yes (.chn .le .lt (.int 0) (.bin .sub (.var 3) (.var 4)) (.len (.ex (.var 1)))))))) [.va (.tup (a.map rI)), .va (.tup (b.map rI)), w, .va (.int (d : Int)), .un] S = .ok (sumD (cvL a b d)) S := by
  have la : ev (gaOf P 100000 (n + 3)) (.len (.ex (.var 0))) [.va (.tup (a.map rI)), .va (.tup (b.map rI)), w, .va (.int (d : Int)), .un] S = .ok (.int (a.length : Int)) S := by
    have := e_lenT (G := gaOf P 100000 (n + 3)) (e_var (i := 0) (v := [.va (.tup (a.map rI)), .va (.tup (b.map rI)), w, .va (.int (d : Int)), .un]) (S := S) rfl)
    simpa using this
  have e := e_compF (G := gaOf P 100000 (n + 3)) (S := S) (e := .bin .mul (.idx (.ex (.var 0)) (.var 4)) (.idx (.ex (.var 1)) (.bin .sub (.var 3) (.var 4)))) (c := .chn .le .lt (.int 0) (.bin .sub (.var 3) (.var 4)) (.len (.ex (.var 1)))) (i := 4) (f := fun k => rI (co a k * co b (d - k))) (p := cvP b d) la ha
    (fun k hk => by
      show ev _ _ [.va (.tup (a.map rI)), .va (.tup (b.map rI)), w, .va (.int (d : Int)), .va (.int (k : Int))] S = _
      have v3 : ev (gaOf P 100000 (n + 3)) (.bin .sub (.var 3) (.var 4)) [.va (.tup (a.map rI)), .va (.tup (b.map rI)), w, .va (.int (d : Int)), .va (.int (k : Int))] S = .ok (.int ((d : Int) - (k : Int))) S := e_bin (e_var rfl) (e_var rfl) b_sub
      have lb := e_lenT (G := gaOf P 100000 (n + 3)) (e_var (i := 1) (v := [.va (.tup (a.map rI)), .va (.tup (b.map rI)), w, .va (.int (d : Int)), .va (.int (k : Int))]) (S := S) rfl)
      rw [List.length_map] at lb
      rw [ev, e_int, R.bind]
      simp only [v3, R.bind, cmpD, cmpG, cmpP, lb]
      by_cases z : k ≤ d
      · have : (0 : Int) ≤ (d : Int) - (k : Int) := by omega
        simp only [this, decide_true, if_true]
        congr 2
        simp only [cvP, z, decide_true, Bool.true_and, decide_eq_decide]
        omega
      · have : ¬ (0 : Int) ≤ (d : Int) - (k : Int) := by omega
        simp only [this, decide_false, Bool.false_eq_true, if_false, cvP, z, Bool.false_and])
    (fun k hk hp => by
      show ev _ _ [.va (.tup (a.map rI)), .va (.tup (b.map rI)), w, .va (.int (d : Int)), .va (.int (k : Int))] S = _
      have v3 : ev (gaOf P 100000 (n + 3)) (.bin .sub (.var 3) (.var 4)) [.va (.tup (a.map rI)), .va (.tup (b.map rI)), w, .va (.int (d : Int)), .va (.int (k : Int))] S = .ok (.int ((d : Int) - (k : Int))) S := e_bin (e_var rfl) (e_var rfl) b_sub
      have hp' : k ≤ d ∧ d - k < b.length := by simpa [cvP] using hp
      rw [show ((d : Int) - (k : Int)) = ((d - k : Nat) : Int) by omega] at v3
      exact e_bin (e_idxT (e_var rfl) (e_var rfl) (atI_map (x := co a k) (by simp [co, hk]))) (e_idxT (e_var rfl) v3 (atI_map (x := co b (d - k)) (by simp [co, hp'.2]))) (B_mul (mulOk_l (small_co hs (d - k)))))
  have ee : (List.range a.length).filterMap (fun k => if cvP b d k = true then some (rI (co a k * co b (d - k))) else none) = (cvL a b d).map rI := by
    rw [cvL, List.map_filterMap]
    have : (fun k => if cvP b d k = true then some (rI (co a k * co b (d - k))) else none) = (fun x => Option.map rI (if cvP b d x = true then some (co a x * co b (d - x)) else none)) := by
      funext i
      split <;> rfl
    rw [this]
  rw [ee] at e
  rw [ev, evq, e]
  exact sumD_ok (n := n) (cvL a b d) S
end
end Mi.L71

set_option linter.all false
set_option maxRecDepth 100000
set_option maxHeartbeats 1000000
namespace Mi.L71
open Mi
def timesD (a b : List Int) : List D := if 0 < a.length ∧ 0 < b.length then (List.range (a.length + b.length - 1)).map fun d => sumD (cvL a b d) else []
theorem timesD_num (a b : List Int) : ∀ d ∈ timesD a b, isNum d := by
  intro d h
  unfold timesD at h
  split at h
  · obtain ⟨k, _, rfl⟩ := List.mem_map.1 h
    exact sumD_num _
  · cases h
theorem timesD_val (a b : List Int) : (timesD a b).map numI = mulZ a b := by
  unfold timesD mulZ
  split
  · rw [List.map_map]
    exact List.map_congr_left fun d _ => sumD_val _
  · rfl
theorem timesD_len (a b : List Int) : (timesD a b).length ≤ a.length + b.length := by
  unfold timesD
  split
  · simp
  · simp
theorem numbers_times_ok {n : Nat} {a b : List Int} {S : Sto} (hs : small b = true) (ha : a.length < 40000) (hb : b.length < 40000) : callN P 100000 (n + 4) 22 [.tup (a.map rI), .tup (b.map rI)] S = .ok (.lst (timesD a b)) S := by
  rw [call_run (n := n + 3) (f := ff22) (es := [.tup (a.map rI), .tup (b.map rI)]) rfl rfl rfl]
  show (xss (gaOf P 100000 _) bd22 [.va (.tup (a.map rI)), .va (.tup (b.map rI)), .un, .un, .un] S).bind _ = _
  have la := e_lenT (G := gaOf P 100000 (n + 3)) (e_var (i := 0) (v := [.va (.tup (a.map rI)), .va (.tup (b.map rI)), .un, .un, .un]) (S := S) rfl)
  have lb := e_lenT (G := gaOf P 100000 (n + 3)) (e_var (i := 1) (v := [.va (.tup (a.map rI)), .va (.tup (b.map rI)), .un, .un, .un]) (S := S) rfl)
  rw [List.length_map] at la lb
  have hc : ev (gaOf P 100000 (n + 3)) (.and (.cons (.cmp .gt (.len (.ex (.var 0))) (.int 0)) (.cons (.cmp .gt (.len (.ex (.var 1))) (.int 0)) .nil))) [.va (.tup (a.map rI)), .va (.tup (b.map rI)), .un, .un, .un] S = .ok (.bl (decide ((0 : Int) < (a.length : Int)) && decide ((0 : Int) < (b.length : Int)))) S :=
    e_and2 (e_cmp la e_int c_gt) (e_cmp lb e_int c_gt)
  have main : ∀ m : Nat, m < 100000 → (xss (gaOf P 100000 (n + 3)) (.cons (.ret (.comp (.sum (.ex (.comp (.bin .mul (.idx (.ex (.var 0)) (.var 4)) (.idx (.ex (.var 1)) (.bin .sub (.var 3) (.var 4)))) [4] (.nm 4) (.rng1 (.len (.ex (.var 0)))) (.yes (.chn .le .lt (.int 0) (.bin .sub (.var 3) (.var 4)) (.len (.ex (.var 1)))))))) [3] (.nm 3) (.rng1 (.var 2)) .no)) .nil) [.va (.tup (a.map rI)), .va (.tup (b.map rI)), .va (.int (m : Int)), .un, .un] S) = .ok (.rt (.lst ((List.range m).map fun d => sumD (cvL a b d)))) S := fun m hm =>
    x_ret (e_compR (e_var rfl) hm fun k _ => times_in hs (by omega))
  unfold bd22
  by_cases z : 0 < a.length ∧ 0 < b.length
  · rw [x_cons (x_asg (d := .int ((a.length + b.length - 1 : Nat) : Int)) (S' := S) (by
      rw [ev, hc]
      have : (decide ((0 : Int) < (a.length : Int)) && decide ((0 : Int) < (b.length : Int))) = true := by simp; omega
      rw [this]
      simp only [R.bind, asB, if_true]
      have := e_bin (e_bin la lb b_add) (e_int (n := 1)) b_sub
      rw [this]
      congr 2; omega))]
    have := main (a.length + b.length - 1) (by omega)
    show (xss _ _ [.va (.tup (a.map rI)), .va (.tup (b.map rI)), .va (.int ((a.length + b.length - 1 : Nat) : Int)), .un, .un] S).bind _ = _
    rw [this, timesD, if_pos z]; rfl
  · rw [x_cons (x_asg (d := .int ((0 : Nat) : Int)) (S' := S) (by
      rw [ev, hc]
      have : (decide ((0 : Int) < (a.length : Int)) && decide ((0 : Int) < (b.length : Int))) = false := by
        cases h : (decide ((0 : Int) < (a.length : Int)) && decide ((0 : Int) < (b.length : Int))) with
        | false => rfl
        | true => simp only [Bool.and_eq_true, decide_eq_true_eq] at h; omega
      rw [this]
      simp only [R.bind, asB, Bool.false_eq_true, if_false]
      exact e_int))]
    have := main 0 (by omega)
    show (xss _ _ [.va (.tup (a.map rI)), .va (.tup (b.map rI)), .va (.int ((0 : Nat) : Int)), .un, .un] S).bind _ = _
    rw [this, timesD, if_neg z]; rfl
end Mi.L71

set_option linter.all false
set_option maxRecDepth 100000
set_option maxHeartbeats 1000000
namespace Mi.L71
open Mi
theorem new_poly {n : Nat} {es : Exs} {v : Env} {S S' : Sto} {q : D} {l : List D} (h : evs (gaOf P 100000 (n + 6)) es v S = .ok [q] S') (hq : q = .lst l ∨ q = .tup l) (hn : ∀ d ∈ l, isNum d) (hl : l.length < 100000) : ev (gaOf P 100000 (n + 6)) (.new 0 es) v S = .ok (pZ (l.map numI)) S' := by
  rw [ev, h]
  show (R.bind ((callN P 100000 (n + 6) 25 [q] S')) _) = _
  rw [poly_init hq hn hl]
  rfl
theorem new_polyZ {n : Nat} {es : Exs} {v : Env} {S S' : Sto} {q : D} {l : List Int} (h : evs (gaOf P 100000 (n + 6)) es v S = .ok [q] S') (hq : q = .lst (l.map rI) ∨ q = .tup (l.map rI)) (hl : l.length < 100000) : ev (gaOf P 100000 (n + 6)) (.new 0 es) v S = .ok (pZ l) S' := by
  have := new_poly h hq (by intro d hd; obtain ⟨x, _, rfl⟩ := List.mem_map.1 hd; exact isNum_r x) (by simpa using hl)
  rw [this, List.map_map]
  congr 2
  have : (numI ∘ rI) = id := rfl
  rw [this, List.map_id]
theorem is_number_p {n : Nat} {l : List Int} {S : Sto} : callN P 100000 (n + 2) 18 [pT l] S = .ok (.bl false) S := by
  have hc : ∀ l S, (gaOf P 100000 (n + 1)).call 12 l S = callN P 100000 (n + 1) 12 l S := fun _ _ => rfl
  have c0 : (gaOf P 100000 (n + 1)).cls 0 = some cl0 := rfl
  have c1 : (gaOf P 100000 (n + 1)).cls 1 = some cl1 := rfl
  have k : knD (gaOf P 100000 (n + 1)) (pT l) = true := rfl
  have ri : callN P 100000 (n + 1) 12 [pT l] S = .ok (.bl false) S := call_is_integer rfl
  have t : tyIs (.cls 1) (pT l) = false := rfl
  rw [call_run (n := n + 1) (f := ff18) (es := [pT l]) rfl rfl rfl]
  simp [finF, padU, ff18, bd18, xss, xs1, ev, evs, evOr, R.bind, getN, hc, ri, asB, k, knT, t, c1]
section
variable {G : Ga} {v : Env} {S S' : Sto} {l : List Int} {e : Ex}
theorem p0 (c0 : G.cls 0 = some cl0) (h : ev G e v S = .ok (pT l) S') : ev G (.fld e 0) v S = .ok (.tup (l.map rI)) S' := by
  rw [ev, h]; simp [R.bind, pT, c0, cl0, lookF]
theorem p1 (c0 : G.cls 0 = some cl0) (h : ev G e v S = .ok (pT l) S') : ev G (.fld e 1) v S = .ok (.int ((l.length : Int) - 1)) S' := by
  rw [ev, h]; simp [R.bind, pT, c0, cl0, lookF]
end
theorem subZ_len (a b : List Int) : (subZ a b).length = max a.length b.length := by simp [subZ]
theorem poly_sub {n : Nat} {a b : List Int} {S : Sto} (ha : a.length < 40000) (hb : b.length < 40000) : callN P 100000 (n + 7) 27 [pT a, pT b] S = .ok (pZ (subZ a b)) S := by
  have c0 : (gaOf P 100000 (n + 6)).cls 0 = some cl0 := rfl
  have h1 : ∀ l S, (gaOf P 100000 (n + 6)).call 18 l S = callN P 100000 (n + 6) 18 l S := fun _ _ => rfl
  have h2 : ∀ l S, (gaOf P 100000 (n + 6)).call 21 l S = callN P 100000 (n + 6) 21 l S := fun _ _ => rfl
  rw [call_run (n := n + 6) (f := ff27) (es := [pT a, pT b]) rfl rfl rfl]
  show (xss (gaOf P 100000 _) bd27 [.va (pT a), .va (pT b)] S).bind _ = _
  have k : knD (gaOf P 100000 (n + 6)) (pT b) = true := rfl
  have t : tyIs (.cls 0) (pT b) = true := rfl
  have s : ev (gaOf P 100000 (n + 6)) (.call 21 (.cons (.fld (.var 0) 0) (.cons (.fld (.var 1) 0) .nil))) [.va (pT a), .va (pT b)] S = .ok (.lst ((subZ a b).map rI)) S := by
    rw [ev, e_evs (p0 c0 (e_var rfl)) (e_evs (p0 c0 (e_var rfl)) e_evs_nil)]
    exact numbers_less_ok (n := n + 2) (.inr rfl) (.inr rfl) (by omega) (by omega)
  have e := new_polyZ (e_evs s e_evs_nil) (.inl rfl) (by rw [subZ_len]; omega)
  simp [bd27, xss, xs1, ↓e, ev, evs, R.bind, getN, h1, is_number_p, asB, k, knT, t, c0, finF]
theorem poly_mul {n : Nat} {a b : List Int} {S : Sto} (hs : small b = true) (ha : a.length < 40000) (hb : b.length < 40000) : callN P 100000 (n + 7) 28 [pT a, pT b] S = .ok (pZ (mulZ a b)) S := by
  have c0 : (gaOf P 100000 (n + 6)).cls 0 = some cl0 := rfl
  have h1 : ∀ l S, (gaOf P 100000 (n + 6)).call 18 l S = callN P 100000 (n + 6) 18 l S := fun _ _ => rfl
  rw [call_run (n := n + 6) (f := ff28) (es := [pT a, pT b]) rfl rfl rfl]
  show (xss (gaOf P 100000 _) bd28 [.va (pT a), .va (pT b), .un] S).bind _ = _
  have k : knD (gaOf P 100000 (n + 6)) (pT b) = true := rfl
  have t : tyIs (.cls 0) (pT b) = true := rfl
  have s : ev (gaOf P 100000 (n + 6)) (.call 22 (.cons (.fld (.var 0) 0) (.cons (.fld (.var 1) 0) .nil))) [.va (pT a), .va (pT b), .un] S = .ok (.lst (timesD a b)) S := by
    rw [ev, e_evs (p0 c0 (e_var rfl)) (e_evs (p0 c0 (e_var rfl)) e_evs_nil)]
    exact numbers_times_ok (n := n + 2) hs (by omega) (by omega)
  have e := new_poly (e_evs s e_evs_nil) (.inl rfl) (timesD_num a b) (by have := timesD_len a b; omega)
  rw [timesD_val] at e
  simp [bd28, xss, xs1, ↓e, ev, evs, R.bind, getN, h1, is_number_p, asB, k, knT, t, c0, finF]
theorem poly_muli {n : Nat} {a : List Int} {m : Int} {S : Sto} (hs : m.natAbs < 18446744073709551616) (ha : a.length < 40000) : callN P 100000 (n + 7) 28 [pT a, .int m] S = .ok (pZ (a.map (· * m))) S := by
  have c0 : (gaOf P 100000 (n + 6)).cls 0 = some cl0 := rfl
  have h1 : ∀ l S, (gaOf P 100000 (n + 6)).call 18 l S = callN P 100000 (n + 6) 18 l S := fun _ _ => rfl
  rw [call_run (n := n + 6) (f := ff28) (es := [pT a, .int m]) rfl rfl rfl]
  show (xss (gaOf P 100000 _) bd28 [.va (pT a), .va (.int m), .un] S).bind _ = _
  have s : ev (gaOf P 100000 (n + 6)) (.comp (.bin .mul (.var 2) (.var 1)) [2] (.nm 2) (.seq (.ex (.fld (.var 0) 0))) .no) [.va (pT a), .va (.int m), .un] S = .ok (.lst ((a.map rI).map fun d => rI (numI d * m))) S :=
    e_compN (t_seqT (p0 c0 (e_var rfl))) (by simp [SZ]; omega) fun x hx => by
      obtain ⟨y, _, rfl⟩ := List.mem_map.1 hx
      exact e_bin (e_var rfl) (e_var rfl) (B_muli (mulOk_l hs))
  rw [List.map_map, show ((fun d => rI (numI d * m)) ∘ rI) = rI ∘ (· * m) from rfl, ← List.map_map] at s
  have e := new_polyZ (e_evs s e_evs_nil) (.inl rfl) (by simp; omega)
  simp [bd28, xss, xs1, ↓e, ev, evs, R.bind, getN, h1, is_number_i, asB, finF]
end Mi.L71

set_option linter.all false
set_option maxRecDepth 100000
set_option maxHeartbeats 1000000
namespace Mi.L71
open Mi
theorem forL_inv {f : D → Env → Sto → R Fl} {S : Sto} : ∀ (l : List D) (I : Nat → Env), (∀ k x, l[k]? = some x → f x (I k) S = .ok (.nx (I (k + 1))) S) → forL f l (I 0) S = .ok (.nx (I l.length)) S
  | [], I, _ => rfl
  | x :: l, I, h => by
    rw [forL, h 0 x rfl]
    show forL f l (I (0 + 1)) S = _
    exact forL_inv l (fun k => I (k + 1)) fun k y hy => h (k + 1) y hy
theorem B_pmul {n : Nat} {a b : List Int} {S : Sto} (hs : small b = true) (ha : a.length < 40000) (hb : b.length < 40000) : binop (gaOf P 100000 (n + 7)) .mul (pT a) (pT b) S = .ok (pZ (mulZ a b)) S := by
  show (callN P 100000 (n + 7) 28 [pT a, pT b] S).nox = _
  rw [poly_mul hs ha hb]; rfl
theorem B_pmuli {n : Nat} {a : List Int} {m : Int} {S : Sto} (hs : m.natAbs < 18446744073709551616) (ha : a.length < 40000) : binop (gaOf P 100000 (n + 7)) .mul (pT a) (.int m) S = .ok (pZ (a.map (· * m))) S := by
  show (callN P 100000 (n + 7) 28 [pT a, .int m] S).nox = _
  rw [poly_muli hs ha]; rfl
theorem B_psub {n : Nat} {a b : List Int} {S : Sto} (ha : a.length < 40000) (hb : b.length < 40000) : binop (gaOf P 100000 (n + 7)) .sub (pT a) (pT b) S = .ok (pZ (subZ a b)) S := by
  show (callN P 100000 (n + 7) 27 [pT a, pT b] S).nox = _
  rw [poly_sub ha hb]; rfl
theorem mulZ_len (a b : List Int) : (mulZ a b).length ≤ a.length + b.length := by
  rw [← timesD_val, List.length_map]; exact timesD_len a b
theorem getN_nth {α : Type} : ∀ (l : List α) (n : Nat), getN l n = l[n]?
  | [], _ => by simp [getN]
  | x :: l, 0 => rfl
  | x :: l, n + 1 => by rw [getN, getN_nth l n]; simp
theorem e_neg {G : Ga} {e : Ex} {v : Env} {S S' : Sto} {i : Int} (h : ev G e v S = .ok (.int i) S') : ev G (.neg e) v S = .ok (.int (-i)) S' := by
  rw [ev, h]; rfl
theorem e_own {G : Ga} {o : Nat} {i : Ex} {v : Env} {S S' : Sto} {l : List D} {j : Int} {d : D} (h : getN v o = some (.ol l)) (hi : ev G i v S = .ok (.int j) S') (hd : atI l j = some d) : ev G (.idx (.own o) i) v S = .ok d S' := by
  rw [ev, evq, h]; simp only [R.bind, hi, hd]
theorem atI_rng {f : Nat → D} {n k : Nat} (h : k < n) : atI ((List.range n).map f) (k : Int) = some (f k) := by
  rw [atI_nat (by omega) (by simpa using h), Int.toNat_natCast]; simp [h]
theorem x_app {G : Ga} {i : Nat} {e : Ex} {v : Env} {S S' : Sto} {l : List D} {d : D} (h : getN v i = some (.ol l)) (he : ev G e v S = .ok d S') (hl : l.length < SZ) : xs1 G (.app i e) v S = .ok (.nx (setN v i (.ol (l ++ [d])))) S' := by
  rw [xs1, h]; simp only [he, R.bind, hl, if_true]
theorem trim_lt {l : List Int} {n : Nat} (h : l.length < n) : (trim l).length < n := Nat.lt_of_le_of_lt (trim_len l) h
theorem t_rng2 {G : Ga} {a b : Ex} {v : Env} {S S1 S' : Sto} {i j : Int} (ha : ev G a v S = .ok (.int i) S1) (hb : ev G b v S1 = .ok (.int j) S') (h1 : 0 ≤ i ∧ i < 100000) (h2 : 0 ≤ j ∧ j < 100000) : evt G (.rng2 a b) v S = .ok (upto (j - i).toNat i) S' := by
  have hj : ∀ i j : Int, ((-4611686018427387904 ≤ i ∧ i < 4611686018427387904) ∧ -4611686018427387904 ≤ j ∧ j < 4611686018427387904) → (R.ok (D.int i) S1).bind (fun x S => (R.ok (D.int j) S').bind fun y S => match x, y with
    | .int i, .int j => if (-4611686018427387904 ≤ i ∧ i < 4611686018427387904) ∧ -4611686018427387904 ≤ j ∧ j < 4611686018427387904 then R.ok (upto (j - i).toNat i) S else .bad
    | _, _ => .bad) = .ok (upto (j - i).toNat i) S' := fun i j h => if_pos h
  have := hj i j (by omega)
  rw [evt, ha]
  show (ev G b v S1).bind _ = _
  rw [hb]
  exact this
end Mi.L71

set_option Elab.async false
set_option linter.all false
set_option maxRecDepth 100000
/-! calls with short cuts, for the kernel: where a short cut tells the end, the def is not run -/
namespace Mi
def callC (P : Pg) (fuel : Nat) (prim : Nat → List D → Option D) (d0 : Nat) : Nat → Nat → List D → Sto → R D
  | 0, _, _, _ => .bad
  | n + 1, i, ds, S => match (match Nat.ble d0 (n + 1) with
      | true => prim i ds
      | false => none) with
    | some d => .ok d S
    | none => (match P.fns i with
      | some f => runF { call := callC P fuel prim d0 n, cls := P.cls, con := P.con, fuel := fuel, co := P.co, xat := P.xat, xsub := P.xsub, rpr := P.rpr } f ds S
      | none => .bad)
def gaC (P : Pg) (fuel : Nat) (prim : Nat → List D → Option D) (d0 n : Nat) : Ga := { call := callC P fuel prim d0 n, cls := P.cls, con := P.con, fuel := fuel, co := P.co, xat := P.xat, xsub := P.xsub, rpr := P.rpr }
/-- the short cuts are right -/
def PrimOk (P : Pg) (fuel : Nat) (prim : Nat → List D → Option D) (d0 : Nat) : Prop := ∀ i ds d, prim i ds = some d → ∀ n, d0 ≤ n → ∀ S, callN P fuel n i ds S = .ok d S
theorem callC_eq {P : Pg} {fuel : Nat} {prim : Nat → List D → Option D} {d0 : Nat} (h : PrimOk P fuel prim d0) : ∀ n, callC P fuel prim d0 n = callN P fuel n
  | 0 => rfl
  | n + 1 => by
    have ih := callC_eq h n
    funext i ds S
    unfold callC
    split
    · rename_i d e
      split at e
      · rename_i hb
        exact (h i ds d e (n + 1) (Nat.le_of_ble_eq_true hb) S).symm
      all_goals cases e
    · rw [ih, callN]
      first | done | rfl
theorem gaC_eq {P : Pg} {fuel : Nat} {prim : Nat → List D → Option D} {d0 : Nat} (h : PrimOk P fuel prim d0) (n : Nat) : gaC P fuel prim d0 n = gaOf P fuel n := by
  unfold gaC gaOf
  rw [callC_eq h n]
end Mi

set_option linter.all false
set_option maxRecDepth 100000
set_option maxHeartbeats 1000000
namespace Mi.L71
open Mi
/-! short cuts for polynomials of integers -/
theorem poly_add {n : Nat} {a b : List Int} {S : Sto} (ha : a.length < 40000) (hb : b.length < 40000) : callN P 100000 (n + 7) 26 [pT a, pT b] S = .ok (pZ (addZ a b)) S := by
  have c0 : (gaOf P 100000 (n + 6)).cls 0 = some cl0 := rfl
  have h1 : ∀ l S, (gaOf P 100000 (n + 6)).call 18 l S = callN P 100000 (n + 6) 18 l S := fun _ _ => rfl
  rw [call_run (n := n + 6) (f := ff26) (es := [pT a, pT b]) rfl rfl rfl]
  show (xss (gaOf P 100000 _) bd26 [.va (pT a), .va (pT b)] S).bind _ = _
  have k : knD (gaOf P 100000 (n + 6)) (pT b) = true := rfl
  have t : tyIs (.cls 0) (pT b) = true := rfl
  have s : ev (gaOf P 100000 (n + 6)) (.call 19 (.cons (.fld (.var 0) 0) (.cons (.fld (.var 1) 0) .nil))) [.va (pT a), .va (pT b)] S = .ok (.lst ((addZ a b).map rI)) S := by
    rw [ev, e_evs (p0 c0 (e_var rfl)) (e_evs (p0 c0 (e_var rfl)) e_evs_nil)]
    exact numbers_sum_ok (n := n + 2) (.inr rfl) (.inr rfl) (by omega) (by omega)
  have e := new_polyZ (e_evs s e_evs_nil) (.inl rfl) (by simp [addZ]; omega)
  simp [bd26, xss, xs1, ↓e, ev, evs, R.bind, getN, h1, is_number_p, asB, k, knT, t, c0, finF]
theorem poly_mulr {n : Nat} {a : List Int} {m : Int} {S : Sto} (hs : m.natAbs < 18446744073709551616) (ha : a.length < 40000) : callN P 100000 (n + 7) 28 [pT a, rI m] S = .ok (pZ (a.map (· * m))) S := by
  have c0 : (gaOf P 100000 (n + 6)).cls 0 = some cl0 := rfl
  have h1 : ∀ l S, (gaOf P 100000 (n + 6)).call 18 l S = callN P 100000 (n + 6) 18 l S := fun _ _ => rfl
  rw [call_run (n := n + 6) (f := ff28) (es := [pT a, rI m]) rfl rfl rfl]
  show (xss (gaOf P 100000 _) bd28 [.va (pT a), .va (rI m), .un] S).bind _ = _
  have s : ev (gaOf P 100000 (n + 6)) (.comp (.bin .mul (.var 2) (.var 1)) [2] (.nm 2) (.seq (.ex (.fld (.var 0) 0))) .no) [.va (pT a), .va (rI m), .un] S = .ok (.lst ((a.map rI).map fun d => rI (numI d * m))) S :=
    e_compN (t_seqT (p0 c0 (e_var rfl))) (by simp [SZ]; omega) fun x hx => by
      obtain ⟨y, _, rfl⟩ := List.mem_map.1 hx
      exact e_bin (e_var rfl) (e_var rfl) (B_mul (mulOk_l hs))
  rw [List.map_map, show ((fun d => rI (numI d * m)) ∘ rI) = rI ∘ (· * m) from rfl, ← List.map_map] at s
  have e := new_polyZ (e_evs s e_evs_nil) (.inl rfl) (by simp; omega)
  simp [bd28, xss, xs1, ↓e, ev, evs, R.bind, getN, h1, is_number_r, asB, finF]
theorem c_yes {i : Int} : cmpP .eq (.int i) (.int i) = some true := by
  show eqD _ _ = _
  simp [eqD, shN, eqB]
theorem ratio_eq {n : Nat} {t : Int} {S : Sto} : callN P 100000 (n + 1) 47 [rI t, rI t] S = .ok (.bl true) S := by
  have c1 : (gaOf P 100000 n).cls 1 = some cl1 := rfl
  rw [call_run (n := n) (f := ff47) (es := [rI t, rI t]) rfl rfl rfl]
  show (xss (gaOf P 100000 _) bd47 [.va (rI t), .va (rI t)] S).bind _ = _
  have i : ev (gaOf P 100000 n) (.isI (.var 1) [.cls 1] false) [.va (rI t), .va (rI t)] S = .ok (.bl true) S := by
    simp [ev, R.bind, getN, kd_rI, knT, c1, ty1]
  have e3 := e_cmp (f3 (v := [.va (rI t), .va (rI t)]) (S := S) (i := 0) c1 rfl) (f3 (v := [.va (rI t), .va (rI t)]) (S := S) (i := 1) c1 rfl) c_yes
  have e4 := e_cmp (f4 (v := [.va (rI t), .va (rI t)]) (S := S) (i := 0) c1 rfl) (f4 (v := [.va (rI t), .va (rI t)]) (S := S) (i := 1) c1 rfl) c_yes
  simp [bd47, xss, xs1, ↓i, ↓e3, ↓e4, ev, evAnd, asB, R.bind, finF]
theorem poly_eq {n : Nat} {a : List Int} {S : Sto} : callN P 100000 (n + 2) 46 [pT a, pT a] S = .ok (.bl true) S := by
  have c0 : (gaOf P 100000 (n + 1)).cls 0 = some cl0 := rfl
  rw [call_run (n := n + 1) (f := ff46) (es := [pT a, pT a]) rfl rfl rfl]
  show (xss (gaOf P 100000 _) bd46 [.va (pT a), .va (pT a)] S).bind _ = _
  have k : knD (gaOf P 100000 (n + 1)) (pT a) = true := rfl
  have t : tyIs (.cls 0) (pT a) = true := rfl
  have i : ev (gaOf P 100000 (n + 1)) (.isI (.var 1) [.cls 0] false) [.va (pT a), .va (pT a)] S = .ok (.bl true) S := by
    simp [ev, R.bind, getN, k, knT, c0, t]
  have all : ∀ l : List Int, eqAll (eqN (gaOf P 100000 (n + 1)) 3) (l.map rI) (l.map rI) = true := fun l => by
    induction l with
    | nil => rfl
    | cons x l ih =>
      rw [List.map_cons, eqAll, ih, Bool.and_true]
      show eqN _ 3 (.ins 1 _) (.ins 1 _) = true
      have : isYes (callN P 100000 (n + 1) 47 [rI x, rI x] []) = true := by rw [ratio_eq]; rfl
      exact this
  have g : cmpG (gaOf P 100000 (n + 1)) .eq (.tup (a.map rI)) (.tup (a.map rI)) S = .ok true S := by
    unfold cmpG
    cases a with
    | nil => rfl
    | cons x l =>
      have : cmpP .eq (.tup ((x :: l).map rI)) (.tup ((x :: l).map rI)) = none := by
        show eqD _ _ = none
        unfold eqD
        rw [if_neg (by rw [List.map_cons]; simp [shN, rI])]
      rw [this]
      show (if (isBox _ && eqAll (eqN _ 3) _ _) = true then R.ok true S else .bad) = _
      rw [all]; rfl
  have e : ev (gaOf P 100000 (n + 1)) (.cmp .eq (.fld (.var 0) 0) (.fld (.var 1) 0)) [.va (pT a), .va (pT a)] S = .ok (.bl true) S := by
    have ea : ev (gaOf P 100000 (n + 1)) (.fld (.var 0) 0) [.va (pT a), .va (pT a)] S = .ok (.tup (a.map rI)) S := p0 c0 (e_var rfl)
    have eb : ev (gaOf P 100000 (n + 1)) (.fld (.var 1) 0) [.va (pT a), .va (pT a)] S = .ok (.tup (a.map rI)) S := p0 c0 (e_var rfl)
    rw [ev, ea]
    simp only [R.bind, eb, g]
  simp [bd46, xss, xs1, ↓i, ↓e, ev, evAnd, asB, R.bind, finF]
/-! reading -/
def unR : D → Option Int
  | .ins 1 [.int t, .int 1, .int s, .bl true] => bif s == sg t then some t else none
  | _ => none
theorem unR_ok {d : D} {t : Int} (h : unR d = some t) : d = rI t := by
  unfold unR at h
  split at h
  · rename_i t' s
    cases e : (s == sg t') with
    | false => rw [e] at h; cases h
    | true =>
      rw [e] at h; cases h
      have := beq_iff_eq.mp e
      subst this; rfl
  · cases h
def unRs : List D → Option (List Int)
  | [] => some []
  | d :: l => (unR d).bind fun t => (unRs l).map (t :: ·)
theorem unRs_ok : ∀ {l : List D} {m : List Int}, unRs l = some m → l = m.map rI
  | [], m, h => by cases h; rfl
  | d :: l, m, h => by
    unfold unRs at h
    cases e : unR d with
    | none => rw [e] at h; cases h
    | some t =>
      rw [e] at h
      have h : (unRs l).map (t :: ·) = some m := h
      cases e2 : unRs l with
      | none => rw [e2] at h; cases h
      | some r => rw [e2] at h; cases h; rw [unR_ok e, unRs_ok e2]; rfl
/-- the last one -/
def lastI : List Int → Option Int
  | [] => none
  | [x] => some x
  | _ :: y :: l => lastI (y :: l)
theorem lead_last : ∀ (l : List Int), leadD l = (match lastI l with | none => .non | some x => rI x)
  | [] => rfl
  | [x] => rfl
  | x :: y :: l => by
    have ih := lead_last (y :: l)
    rw [show lastI (x :: y :: l) = lastI (y :: l) from rfl, ← ih]
    unfold leadD
    rw [if_pos (by simp), if_pos (by simp)]
    congr 1
    have at1 : ∀ m : List D, 0 < m.length → atI m (-1) = m[m.length - 1]? := fun m hm => by
      unfold atI ixN
      rw [if_neg (by omega), if_pos (by omega)]
      have : ((-1 : Int) + (m.length : Int)).toNat = m.length - 1 := by omega
      show m[((-1 : Int) + (m.length : Int)).toNat]? = _
      rw [this]
    rw [at1 _ (by simp), at1 _ (by simp)]
    simp
def leadOk (l : List Int) (d : D) : Bool := match lastI l with
  | none => (match d with
    | .non => true
    | _ => false)
  | some x => (match unR d with
    | some y => x == y
    | none => false)
def unP : D → Option (List Int)
  | .ins 0 [.tup rs, .int g, ld] => (match unRs rs with
    | some l => bif (g == (l.length : Int) - 1) && leadOk l ld then some l else none
    | none => none)
  | _ => none
theorem unP_ok {d : D} {l : List Int} (h : unP d = some l) : d = pT l := by
  unfold unP at h
  split at h
  · rename_i rs g ld
    cases e : unRs rs with
    | none => rw [e] at h; cases h
    | some m =>
      rw [e] at h
      simp only at h
      cases e2 : ((g == (m.length : Int) - 1) && leadOk m ld) with
      | false => rw [e2] at h; cases h
      | true =>
        rw [e2] at h; cases h
        rw [Bool.and_eq_true] at e2
        have h1 := beq_iff_eq.mp e2.1
        have h2 : ld = leadD l := by
          have := e2.2
          unfold leadOk at this
          rw [lead_last]
          cases hz : lastI l with
          | none =>
            rw [hz] at this
            cases ld <;> first | rfl | cases this
          | some x =>
            rw [hz] at this
            cases hy : unR ld with
            | none => rw [hy] at this; cases this
            | some y =>
              rw [hy] at this
              have := beq_iff_eq.mp this
              subst this
              exact unR_ok hy
        rw [unRs_ok e, h1, h2]; rfl
  · cases h
/-- ints or Ratios of ints -/
def unN : List D → Option (List Int)
  | [] => some []
  | .int t :: l => (unN l).map (t :: ·)
  | d :: l => (unR d).bind fun t => (unN l).map (t :: ·)
theorem unN_ok : ∀ {l : List D} {m : List Int}, unN l = some m → l.map numI = m ∧ ∀ d ∈ l, isNum d
  | [], m, h => by cases h; exact ⟨rfl, fun _ h => by cases h⟩
  | d :: l, m, h => by
    unfold unN at h
    split at h
    · rename_i z; cases z
    · rename_i t l' z
      cases z
      cases e2 : unN l with
      | none => rw [e2] at h; cases h
      | some r =>
        rw [e2] at h; cases h
        obtain ⟨g1, g2⟩ := unN_ok e2
        exact ⟨by rw [List.map_cons, g1]; rfl, fun d hd => by
          rcases List.mem_cons.mp hd with rfl | hd
          · exact isNum_i t
          · exact g2 d hd⟩
    · rename_i d' l' hne z
      cases z
      cases e : unR d with
      | none => rw [e] at h; cases h
      | some t =>
        rw [e] at h
        have h : (unN l).map (t :: ·) = some m := h
        cases e2 : unN l with
        | none => rw [e2] at h; cases h
        | some r =>
          rw [e2] at h; cases h
          obtain ⟨g1, g2⟩ := unN_ok e2
          have ed := unR_ok e
          subst ed
          exact ⟨by rw [List.map_cons, g1]; rfl, fun d hd => by
            rcases List.mem_cons.mp hd with rfl | hd
            · exact isNum_r t
            · exact g2 d hd⟩
/-! quick forms of the arithmetic -/
def shortL (l : List Int) : Bool := Nat.ble l.length 30000
theorem shortL_ok {l : List Int} (h : shortL l = true) : l.length < 40000 := by
  have := Nat.le_of_ble_eq_true h; omega
end Mi.L71

set_option linter.all false
set_option maxRecDepth 100000
set_option maxHeartbeats 1000000
namespace Mi.L71
open Mi
def bigI (m : Int) : Bool := Nat.ble 18446744073709551616 m.natAbs
def pInit (l : List D) : Option D := (unN l).bind fun m => bif shortL m then some (pT (trim m)) else none
def p2 (f : List Int → List Int → Option D) (a b : D) : Option D := (unP a).bind fun l => (unP b).bind fun m => bif shortL l && shortL m then f l m else none
def pMulI (a : D) (m : Int) : Option D := (unP a).bind fun l => bif shortL l && !bigI m then some (pT (trim (l.map (· * m)))) else none
def eqLI : List Int → List Int → Bool
  | [], [] => true
  | x :: l, y :: m => (x == y) && eqLI l m
  | _, _ => false
theorem eqLI_ok : ∀ {l m : List Int}, eqLI l m = true → l = m
  | [], [], _ => rfl
  | x :: l, y :: m, h => by
    simp only [eqLI, Bool.and_eq_true, beq_iff_eq] at h
    rw [h.1, eqLI_ok h.2]
  | [], _ :: _, h => by cases h
  | _ :: _, [], h => by cases h
/-- short cuts for Poly's own defs; e: the place of Poly's == -/
def primP (e i : Nat) (ds : List D) : Option D :=
  bif Nat.beq i 25 then (match ds with
    | [.lst l] => pInit l
    | [.tup l] => pInit l
    | _ => none)
  else bif Nat.beq i 26 then (match ds with
    | [a, b] => p2 (fun l m => some (pT (trim (addZ l m)))) a b
    | _ => none)
  else bif Nat.beq i 27 then (match ds with
    | [a, b] => p2 (fun l m => some (pT (trim (subZ l m)))) a b
    | _ => none)
  else bif Nat.beq i 28 then (match ds with
    | [a, .int m] => pMulI a m
    | [a, b] => (match unR b with
      | some m => pMulI a m
      | none => p2 (fun l m => bif small m then some (pT (trim (mulZ l m))) else none) a b)
    | _ => none)
  else bif Nat.beq i e then (match ds with
    | [a, b] => p2 (fun l m => bif eqLI l m then some (.bl true) else none) a b
    | _ => none)
  else none
theorem p2_ok {f : List Int → List Int → Option D} {a b d : D} (h : p2 f a b = some d) : ∃ l m, a = pT l ∧ b = pT m ∧ l.length < 40000 ∧ m.length < 40000 ∧ f l m = some d := by
  unfold p2 at h
  cases e1 : unP a with
  | none => rw [e1] at h; cases h
  | some l =>
    rw [e1] at h
    simp only [Option.bind_some] at h
    cases e2 : unP b with
    | none => rw [e2] at h; cases h
    | some m =>
      rw [e2] at h
      simp only [Option.bind_some] at h
      cases e3 : (shortL l && shortL m) with
      | false => rw [e3] at h; cases h
      | true =>
        rw [e3] at h
        rw [Bool.and_eq_true] at e3
        exact ⟨l, m, unP_ok e1, unP_ok e2, shortL_ok e3.1, shortL_ok e3.2, h⟩
theorem pMulI_ok {a d : D} {m : Int} (h : pMulI a m = some d) : ∃ l, a = pT l ∧ l.length < 40000 ∧ m.natAbs < 18446744073709551616 ∧ d = pT (trim (l.map (· * m))) := by
  unfold pMulI at h
  cases e1 : unP a with
  | none => rw [e1] at h; cases h
  | some l =>
    rw [e1] at h
    simp only [Option.bind_some] at h
    cases e3 : (shortL l && !bigI m) with
    | false => rw [e3] at h; cases h
    | true =>
      rw [e3] at h
      cases h
      rw [Bool.and_eq_true, Bool.not_eq_true'] at e3
      refine ⟨l, unP_ok e1, shortL_ok e3.1, ?_, rfl⟩
      have := e3.2
      unfold bigI at this
      have := Nat.not_le_of_not_ble_eq_true (by rw [this]; simp)
      omega
theorem pInit_ok {l : List D} {d : D} (h : pInit l = some d) : (∀ x ∈ l, isNum x) ∧ l.length < 100000 ∧ d = pZ (l.map numI) := by
  unfold pInit at h
  cases e1 : unN l with
  | none => rw [e1] at h; cases h
  | some m =>
    rw [e1] at h
    simp only [Option.bind_some] at h
    cases e3 : shortL m with
    | false => rw [e3] at h; cases h
    | true =>
      rw [e3] at h; cases h
      obtain ⟨g1, g2⟩ := unN_ok e1
      refine ⟨g2, ?_, by rw [g1]; rfl⟩
      have := shortL_ok e3
      rw [← g1, List.length_map] at this
      omega
theorem primP_ok (e : Nat) (he : ∀ (n : Nat) (a : List Int) (S : Sto), callN P 100000 (n + 2) e [pT a, pT a] S = .ok (.bl true) S) : PrimOk P 100000 (primP e) 12 := by
  intro i ds d h n hn S
  obtain ⟨k, rfl⟩ : ∃ k, n = k + 7 := ⟨n - 7, by omega⟩
  unfold primP at h
  cases e1 : Nat.beq i 25 with
  | true =>
    rw [e1] at h
    obtain rfl := Nat.eq_of_beq_eq_true e1
    simp only [cond_true] at h
    split at h
    · obtain ⟨g1, g2, rfl⟩ := pInit_ok h
      exact poly_init (n := k + 1) (.inl rfl) g1 g2
    · obtain ⟨g1, g2, rfl⟩ := pInit_ok h
      exact poly_init (n := k + 1) (.inr rfl) g1 g2
    · cases h
  | false =>
    rw [e1] at h
    simp only [cond_false] at h
    cases e2 : Nat.beq i 26 with
    | true =>
      rw [e2] at h
      obtain rfl := Nat.eq_of_beq_eq_true e2
      simp only [cond_true] at h
      split at h
      · obtain ⟨l, m, rfl, rfl, g1, g2, g3⟩ := p2_ok h
        cases g3
        exact poly_add g1 g2
      · cases h
    | false =>
      rw [e2] at h
      simp only [cond_false] at h
      cases e3 : Nat.beq i 27 with
      | true =>
        rw [e3] at h
        obtain rfl := Nat.eq_of_beq_eq_true e3
        simp only [cond_true] at h
        split at h
        · obtain ⟨l, m, rfl, rfl, g1, g2, g3⟩ := p2_ok h
          cases g3
          exact poly_sub g1 g2
        · cases h
      | false =>
        rw [e3] at h
        simp only [cond_false] at h
        cases e4 : Nat.beq i 28 with
        | true =>
          rw [e4] at h
          obtain rfl := Nat.eq_of_beq_eq_true e4
          simp only [cond_true] at h
          split at h
          · obtain ⟨l, rfl, g1, g2, rfl⟩ := pMulI_ok h
            exact poly_muli g2 g1
          · rename_i a b _
            cases er : unR b with
            | some m =>
              rw [er] at h
              obtain rfl := unR_ok er
              obtain ⟨l, rfl, g1, g2, rfl⟩ := pMulI_ok h
              exact poly_mulr g2 g1
            | none =>
              rw [er] at h
              obtain ⟨l, m, rfl, rfl, g1, g2, g3⟩ := p2_ok h
              cases es : small m with
              | false => rw [es] at g3; cases g3
              | true =>
                rw [es] at g3; cases g3
                exact poly_mul es g1 g2
          · cases h
        | false =>
          rw [e4] at h
          simp only [cond_false] at h
          cases e5 : Nat.beq i e with
          | true =>
            rw [e5] at h
            obtain rfl := Nat.eq_of_beq_eq_true e5
            simp only [cond_true] at h
            split at h
            · obtain ⟨l, m, rfl, rfl, g1, g2, g3⟩ := p2_ok h
              cases es : eqLI l m with
              | false => rw [es] at g3; cases g3
              | true =>
                rw [es] at g3; cases g3
                rw [eqLI_ok es]
                exact he (k + 5) m S
            · cases h
          | false =>
            rw [e5] at h
            cases h
end Mi.L71

set_option linter.all false
set_option maxRecDepth 100000
set_option maxHeartbeats 1000000
namespace Mi.L71
open Mi
def nD (k : Nat) : D := .int (k : Int)
theorem e_callG {G : Ga} {f : Nat} {es : Exs} {v : Env} {S S1 : Sto} {l : List D} (h : evs G es v S = .ok l S1) : ev G (.call f es) v S = G.call f l S1 := by
  rw [ev, h]; rfl
theorem e_call {P : Pg} {fuel n f : Nat} {es : Exs} {v : Env} {S S1 : Sto} {l : List D} (h : evs (gaOf P fuel n) es v S = .ok l S1) : ev (gaOf P fuel n) (.call f es) v S = callN P fuel n f l S1 := e_callG h
/-! the pen in the store, what is drawn -/
def PenS (c : Nat) (S : Sto) : Prop := ∃ (cells : List Int) (a d k f : Int), S = [penK cells a d k f] ∧ 0 ≤ a ∧ 0 ≤ d ∧ 0 ≤ k ∧ k ≤ (c : Int) ∧ 0 ≤ f ∧ f < 2147483587
theorem PenS.le {c c' : Nat} {S : Sto} (h : PenS c S) (hc : c ≤ c') : PenS c' S := by
  obtain ⟨cells, a, d, k, f, e, h1, h2, h3, h4, h5, h6⟩ := h
  exact ⟨cells, a, d, k, f, e, h1, h2, h3, by omega, h5, h6⟩
theorem draw_call {n c m : Nat} {S : Sto} (h : PenS c S) (hc : c < 1000000) (m0 : 1 ≤ m) (m1 : m < 1000000) : ∃ r S', callN P 100000 (n + 1) 2 [.dr 0, nD m] S = .ok (nD r) S' ∧ r < m ∧ PenS (c + 1) S' := by
  obtain ⟨cells, a, d, k, f, rfl, h1, h2, h3, h4, h5, h6⟩ := h
  obtain ⟨r, a', d', f', e, r0, r1, a0, d0, f0, f1⟩ := draw_ok (G := gaOf P 100000 n) (n := 0) (S := [penK cells a d k f]) (m := (m : Int)) rfl ⟨h1, h2, h3, by omega, h5, h6⟩ (by omega) (by omega)
  refine ⟨r.toNat, [penK cells a' d' (k + 1) f'], ?_, by omega, cells, a', d', k + 1, f', rfl, a0, d0, by omega, by omega, f0, f1⟩
  rw [call_run (n := n) (f := ff2) (es := [.dr 0, nD m]) rfl rfl rfl]
  show (xss _ bdDraw [.va (.dr 0), .va (.int (m : Int)), .un, .un, .un] _).bind _ = _
  rw [e]
  show R.ok (D.int r) _ = R.ok (D.int (r.toNat : Int)) _
  rw [Int.toNat_of_nonneg r0]
  rfl
theorem pen_call {n : Nat} {ns : List Int} : ∃ S, callN P 100000 (n + 1) 1 [.lst (ns.map .int)] [] = .ok (.dr 0) S ∧ PenS 0 S := by
  obtain ⟨f, e, h0, h1⟩ := pen_ok (G := gaOf P 100000 n) (ns := ns) (S := [])
  refine ⟨[penK ns 0 0 0 f], ?_, ns, 0, 0, 0, f, rfl, by decide, by decide, by decide, by decide, h0, h1⟩
  rw [call_run (n := n) (f := ff1) (es := [.lst (ns.map .int)]) rfl rfl rfl]
  show (xss _ bdPen [.va (.lst (ns.map .int)), .un, .un] _).bind _ = _
  rw [e]
  rfl
/-- one of a row -/
def bdPick : Sms := .cons (.ret (.idx (.ex (.var 1)) (.call 2 (.cons (.var 0) (.cons (.len (.ex (.var 1))) .nil))))) .nil
theorem pick_call {n c i : Nat} {f : Fd} {l : List D} {S : Sto} (hf : P.fns i = some f) (he : f = ⟨2, 2, [], none, bdPick, []⟩) (h : PenS c S) (hc : c < 1000000) (hl : 1 ≤ l.length ∧ l.length < 1000000) : ∃ x S', callN P 100000 (n + 2) i [.dr 0, .lst l] S = .ok x S' ∧ x ∈ l ∧ PenS (c + 1) S' := by
  obtain ⟨r, S', e, hr, p⟩ := draw_call (n := n) (m := l.length) h hc hl.1 hl.2
  subst he
  refine ⟨l[r], S', ?_, List.getElem_mem hr, p⟩
  rw [call_run (n := n + 1) (f := ⟨2, 2, [], none, bdPick, []⟩) (es := [.dr 0, .lst l]) hf rfl rfl]
  show (xss (gaOf P 100000 (n + 1)) bdPick [.va (.dr 0), .va (.lst l)] S).bind _ = _
  have hlen : ev (gaOf P 100000 (n + 1)) (.len (.ex (.var 1))) [.va (.dr 0), .va (.lst l)] S = .ok (.int (l.length : Int)) S := e_len (e_var rfl)
  have hd : ev (gaOf P 100000 (n + 1)) (.call 2 (.cons (.var 0) (.cons (.len (.ex (.var 1))) .nil))) [.va (.dr 0), .va (.lst l)] S = .ok (nD r) S' := by
    rw [e_call (e_evs (e_var rfl) (e_evs hlen e_evs_nil))]; exact e
  have hi : atI l (r : Int) = some l[r] := by
    rw [atI_nat (by omega) (by simpa using hr), Int.toNat_natCast]; simp [hr]
  have ei : ev (gaOf P 100000 (n + 1)) (.idx (.ex (.var 1)) (.call 2 (.cons (.var 0) (.cons (.len (.ex (.var 1))) .nil)))) [.va (.dr 0), .va (.lst l)] S = .ok l[r] S' := by
    rw [ev, evq, e_var (d := .lst l) rfl]
    simp only [R.bind, hd, nD, hi]
  unfold bdPick
  rw [x_ret ei]
  rfl
/-! repr, quick -/
def rprF : D → Option (List Nat)
  | .non => some [78, 111, 110, 101]
  | .bl b => some (if b then [84, 114, 117, 101] else [70, 97, 108, 115, 101])
  | .int i => if i.natAbs.log2 < 1920 then some (match i with
    | .ofNat n => (Nat.toDigits 10 n).map (·.toNat)
    | .negSucc n => 45 :: (Nat.toDigits 10 (n + 1)).map (·.toNat)) else none
  | .str s => if (s.all plainC && decide (s.length ≤ 1000)) = true then some (39 :: (s ++ [39])) else none
  | _ => none
theorem rprF_eq : rprP = rprF := by
  funext d
  cases d with
  | int i =>
    have : (toString i).toList.map (·.toNat) = (match i with
      | .ofNat n => (Nat.toDigits 10 n).map (·.toNat)
      | .negSucc n => 45 :: (Nat.toDigits 10 (n + 1)).map (·.toNat)) := by
      cases i with
      | ofNat n =>
        have : (toString (Int.ofNat n)).toList = Nat.toDigits 10 n := by simp [toString, Int.repr, Nat.repr]
        rw [this]
      | negSucc n =>
        have : (toString (Int.negSucc n)).toList = '-' :: Nat.toDigits 10 (n + 1) := by simp [toString, Int.repr, Nat.repr]
        rw [this]; rfl
    show (if i.natAbs.log2 < 1920 then some ((toString i).toList.map (·.toNat)) else none) = _
    rw [this]; rfl
  | _ => rfl
/-- the program, with the quick repr -/
def Pf : Pg := { P with rpr := rprF }
/-! a def with lambdas of its own -/
theorem call_runL {n i : Nat} {f : Fd} {l es : List D} {S : Sto} (hf : P.fns i = some f) (hi : f.ini = none) (he : filled f l = some es) : callN P 100000 (n + 1) i l S = (xss (withL (gaOf P 100000 n) f.lams) f.body (padU (f.ns - es.length) (es.map .va)) S).bind finF := by
  rw [callN, hf]
  show runF (gaOf P 100000 n) f l S = _
  unfold runF
  rw [hi]
  simp only [he]
  rfl
def smsApp : Sms → Sms → Sms
  | .nil, b => b
  | .cons s a, b => .cons s (smsApp a b)
theorem xss_app {G : Ga} : ∀ (a b : Sms) (v : Env) (S : Sto), xss G (smsApp a b) v S = (xss G a v S).bind fun r S => match r with
    | .nx v => xss G b v S
    | r => .ok r S
  | .nil, b, v, S => by
    show xss G b v S = (xss G .nil v S).bind _
    rw [xss]; rfl
  | .cons s a, b, v, S => by
    show xss G (.cons s (smsApp a b)) v S = (xss G (.cons s a) v S).bind _
    rw [xss, xss]
    cases xs1 G s v S with
    | bad => rfl
    | ex c fs S' => rfl
    | ok r S' =>
      cases r with
      | nx w => exact xss_app a b w S'
      | _ => rfl
/-- how a part of a body ends: the pen's slot, the slots' number, the store -/
def okN (r : R Fl) : Option (Option Sl × Nat × Sto) := match r with
  | .ok (.nx v) S => some (getN v 1, v.length, S)
  | _ => none
theorem okN_ok {r : R Fl} {s : Option Sl} {n : Nat} {S : Sto} (h : okN r = some (s, n, S)) : ∃ v, r = .ok (.nx v) S ∧ getN v 1 = s ∧ v.length = n := by
  unfold okN at h
  split at h
  · cases h; exact ⟨_, rfl, rfl, rfl⟩
  · cases h
end Mi.L71

set_option linter.all false
set_option maxRecDepth 100000
set_option maxHeartbeats 0
namespace Mi.L71
open Mi
def s0 : Sm := (.asg 1 (.call 1 (.cons (.var 0) .nil)))
def s1 : Sm := (.par 6 false (.call 2 (.cons (.var 1) (.cons (.int 7) .nil))) 7 false (.call 2 (.cons (.var 1) (.cons (.int 7) .nil))))
def lawA : Sms := (.cons (.asg 2 (.call 3 (.cons (.var 6) (.cons (.var 7) .nil)))) (.cons (.par 8 true (.reps (.lst (.cons (.int 0) .nil)) (.bin .add (.bin .add (.var 6) (.var 7)) (.int 1))) 9 false (.int 1)) (.cons (.for_ (.nm 3) (.rng1 (.bin .add (.min2 (.var 6) (.var 7)) (.int 1))) (.cons (.setI 8 (.bin .sub (.bin .add (.var 6) (.var 7)) (.bin .mul (.int 2) (.var 3))) (.bin .mul (.bin .mul (.call 4 (.cons (.var 6) (.cons (.var 3) .nil))) (.call 4 (.cons (.var 7) (.cons (.var 3) .nil)))) (.var 9))) (.cons (.asg 9 (.bin .mul (.var 9) (.bin .add (.var 3) (.int 1)))) .nil))) (.cons (.frz 8) (.cons (.iff (.or (.cons (.not (.isI (.var 2) [.tuple] false)) (.cons (.cmp .ne (.listOf (.ex (.var 2))) (.var 8)) .nil))) (.cons (.ret (.bl false)) .nil) .nil) (.cons (.asg 4 (.lsR1 (.bin .add (.bin .add (.var 6) (.var 7)) (.int 1)))) (.cons (.for_ (.tp [10, 11, 12]) (.seq (.ex (.lst (.cons (.tup (.cons (.var 2) (.cons (.bin .mul (.call 7 (.cons (.var 6) .nil)) (.call 7 (.cons (.var 7) .nil))) (.cons (.comp (.call 7 (.cons (.var 3) .nil)) [3] (.nm 3) (.seq (.ex (.var 4))) .no) .nil)))) (.cons (.tup (.cons (.call 5 (.cons (.var 6) (.cons (.var 7) .nil))) (.cons (.bin .mul (.call 8 (.cons (.var 6) .nil)) (.call 8 (.cons (.var 7) .nil))) (.cons (.comp (.call 8 (.cons (.var 3) .nil)) [3] (.nm 3) (.seq (.ex (.var 4))) .no) .nil)))) (.cons (.tup (.cons (.call 6 (.cons (.var 6) (.cons (.var 7) .nil))) (.cons (.bin .mul (.call 9 (.cons (.var 6) .nil)) (.call 9 (.cons (.var 7) .nil))) (.cons (.comp (.call 9 (.cons (.var 3) .nil)) [3] (.nm 3) (.seq (.ex (.var 4))) .no) .nil)))) .nil)))))) (.cons (.iff (.or (.cons (.not (.isI (.var 10) [.tuple] false)) (.cons (.cmp .ne (.len (.ex (.var 10))) (.bin .add (.bin .add (.var 6) (.var 7)) (.int 1))) (.cons (.cmp .lt (.minL (.ex (.var 10))) (.int 0)) .nil)))) (.cons (.ret (.bl false)) .nil) .nil) (.cons (.iff (.cmp .ne (.comp (.int 1) [15] (.nm 15) (.seq (.ex (.var 10))) (.yes (.or (.cons (.isI (.var 15) [.bool] false) (.cons (.not (.isI (.var 15) [.int] false)) .nil))))) (.lst .nil)) (.cons (.ret (.bl false)) .nil) .nil) (.cons (.iff (.cmp .ne (.call 13 (.cons (.var 10) (.cons (.var 12) .nil))) (.var 11)) (.cons (.ret (.bl false)) .nil) .nil) .nil)))) .nil)))))))
def s9 : Sm := (.asgT [13, 14] (.tup (.cons (.call 14 (.cons (.var 1) (.cons (.lst (.cons (.neg (.int 1)) (.cons (.int 7) (.cons .non (.cons (.bl true) (.cons (.str [50]) .nil)))))) .nil))) (.cons (.call 14 (.cons (.var 1) (.cons (.lst (.cons (.neg (.int 1)) (.cons (.int 7) (.cons .non (.cons (.bl true) (.cons (.str [50]) .nil)))))) .nil))) .nil))))
def lawC : Sms := (.cons (.for_ (.nm 5) (.seq (.ex (.lst (.cons (.lamv 2) (.cons (.lamv 1) (.cons (.lamv 0) .nil)))))) (.cons (.iff (.cmp .ne (.actc 0 (.var 5)) (.tup (.cons (.str [110, 117, 109, 98, 101, 114]) (.cons (.str [109]) (.cons (.repr (.var 13)) .nil))))) (.cons (.ret (.bl false)) .nil) .nil) .nil)) (.cons (.for_ (.nm 5) (.seq (.ex (.lst (.cons (.lamv 5) (.cons (.lamv 4) (.cons (.lamv 3) .nil)))))) (.cons (.iff (.cmp .ne (.actc 0 (.var 5)) (.tup (.cons (.str [110, 117, 109, 98, 101, 114]) (.cons (.str [110]) (.cons (.repr (.var 14)) .nil))))) (.cons (.ret (.bl false)) .nil) .nil) .nil)) (.cons (.ret (.bl true)) .nil)))
theorem bd0_eq : bd0 = .cons s0 (.cons s1 (smsApp lawA (.cons s9 lawC))) := rfl
theorem P_eq : P = Pf := by
  unfold Pf
  rw [← rprF_eq]
  rfl
theorem prim_ok : PrimOk P 100000 (primP 46) 12 := primP_ok 46 fun n a S => poly_eq
def Gk : Ga := withL (gaC Pf 100000 (primP 46) 12 27) ff0.lams
def Gr : Ga := withL (gaOf P 100000 27) ff0.lams
theorem Gk_eq : Gk = Gr := by
  unfold Gk Gr
  have h := prim_ok
  rw [P_eq] at h ⊢
  rw [gaC_eq h]
def envA (w : Sl) (m n : Nat) : Env := [w, .va (.dr 0), .un, .un, .un, .un, .va (nD m), .va (nD n), .un, .un, .un, .un, .un, .un, .un, .un]
def row7 (w : Sl) (m : Nat) (S : Sto) : List (Option (Option Sl × Nat × Sto)) := (List.range 7).map fun n => okN (xss Gk lawA (envA w m n) S)
def good7 (S : Sto) : List (Option (Option Sl × Nat × Sto)) := List.replicate 7 (some (some (.va (.dr 0)), 16, S))
theorem row_0 (w : Sl) (S : Sto) : row7 w 0 S = good7 S := by kernel_rfl
theorem row_1 (w : Sl) (S : Sto) : row7 w 1 S = good7 S := by kernel_rfl
theorem row_2 (w : Sl) (S : Sto) : row7 w 2 S = good7 S := by kernel_rfl
theorem row_3 (w : Sl) (S : Sto) : row7 w 3 S = good7 S := by kernel_rfl
theorem row_4 (w : Sl) (S : Sto) : row7 w 4 S = good7 S := by kernel_rfl
theorem row_5 (w : Sl) (S : Sto) : row7 w 5 S = good7 S := by kernel_rfl
theorem row_6 (w : Sl) (S : Sto) : row7 w 6 S = good7 S := by kernel_rfl
theorem rows (w : Sl) (S : Sto) : ∀ m, m < 7 → row7 w m S = good7 S := fun m hm => by
  match m, hm with
  | 0, _ => exact row_0 w S
  | 1, _ => exact row_1 w S
  | 2, _ => exact row_2 w S
  | 3, _ => exact row_3 w S
  | 4, _ => exact row_4 w S
  | 5, _ => exact row_5 w S
  | 6, _ => exact row_6 w S
theorem partA {w : Sl} {S : Sto} {m n : Nat} (hm : m < 7) (hn : n < 7) : ∃ v, xss Gr lawA (envA w m n) S = .ok (.nx v) S ∧ getN v 1 = some (.va (.dr 0)) ∧ v.length = 16 := by
  have h := congrArg (fun l => l[n]?) (rows w S m hm)
  have h1 : (row7 w m S)[n]? = some (okN (xss Gk lawA (envA w m n) S)) := by
    unfold row7
    rw [List.getElem?_map, List.getElem?_range hn]; rfl
  have h2 : (good7 S)[n]? = some (some (some (.va (.dr 0)), 16, S)) := by
    unfold good7
    rw [List.getElem?_replicate, if_pos hn]
  have h : (row7 w m S)[n]? = (good7 S)[n]? := h
  rw [h1, h2, Gk_eq] at h
  obtain ⟨v, e1, e2, e3⟩ := okN_ok (Option.some.inj h)
  exact ⟨v, e1, e2, e3⟩
def odds : List D := [.int (-1), .int 7, .non, .bl true, .str [50]]
def endC (r : R Fl) (S : Sto) : R Fl := r
def gridC (f : D → D → Env) (S : Sto) : List (List (R Fl)) := odds.map fun x => odds.map fun y => xss Gk lawC (f x y) S
def envC (a b c d e f g h i j k l m p : Sl) (x y : D) : Env := [a, b, c, d, e, f, g, h, i, j, k, l, m, .va x, .va y, p]
theorem grid (a b c d e f g h i j k l m p : Sl) (S : Sto) : gridC (envC a b c d e f g h i j k l m p) S = List.replicate 5 (List.replicate 5 (.ok (.rt (.bl true)) S)) := by kernel_rfl
theorem partC {a b c d e f g h i j k l m p : Sl} {S : Sto} {x y : D} (hx : x ∈ odds) (hy : y ∈ odds) : xss Gr lawC (envC a b c d e f g h i j k l m p x y) S = .ok (.rt (.bl true)) S := by
  obtain ⟨s, hs, rfl⟩ := List.mem_iff_getElem.1 hx
  obtain ⟨t, ht, rfl⟩ := List.mem_iff_getElem.1 hy
  have hs' : s < 5 := hs
  have ht' : t < 5 := ht
  have q := congrArg (fun l => (l[s]?).bind fun r => r[t]?) (grid a b c d e f g h i j k l m p S)
  have q1 : ((gridC (envC a b c d e f g h i j k l m p) S)[s]?).bind (fun r => r[t]?) = some (xss Gk lawC (envC a b c d e f g h i j k l m p odds[s] odds[t]) S) := by
    unfold gridC
    rw [List.getElem?_map, List.getElem?_eq_getElem hs]
    show (odds.map _)[t]? = _
    rw [List.getElem?_map, List.getElem?_eq_getElem ht]; rfl
  have q2 : ((List.replicate 5 (List.replicate 5 (R.ok (Fl.rt (D.bl true)) S)))[s]?).bind (fun r => r[t]?) = some (R.ok (Fl.rt (D.bl true)) S) := by
    rw [List.getElem?_replicate, if_pos hs']
    show (List.replicate 5 _)[t]? = _
    rw [List.getElem?_replicate, if_pos ht']
  have q : ((gridC (envC a b c d e f g h i j k l m p) S)[s]?).bind (fun r => r[t]?) = ((List.replicate 5 (List.replicate 5 (R.ok (Fl.rt (D.bl true)) S)))[s]?).bind (fun r => r[t]?) := q
  rw [q1, q2, Gk_eq] at q
  exact Option.some.inj q
theorem c_call {f : Nat} {es : Exs} {v : Env} {S S1 : Sto} {l : List D} (h : evs Gr es v S = .ok l S1) : ev Gr (.call f es) v S = callN P 100000 27 f l S1 := e_callG h
theorem e_odds {G : Ga} {v : Env} {S : Sto} : ev G (.lst (.cons (.neg (.int 1)) (.cons (.int 7) (.cons (.non) (.cons (.bl true) (.cons (.str [50]) .nil)))))) v S = .ok (.lst odds) S := by
  simp [ev, evs, R.bind, negD, SZ, odds]
theorem law_pure (ns : List Int) : ∃ S, callN P 100000 28 0 [.lst (ns.map .int)] [] = .ok (.bl true) S := by
  rw [call_runL (n := 27) (f := ff0) (es := [.lst (ns.map .int)]) rfl rfl rfl]
  show ∃ S, (xss Gr bd0 [.va (.lst (ns.map .int)), .un, .un, .un, .un, .un, .un, .un, .un, .un, .un, .un, .un, .un, .un, .un] []).bind finF = _
  rw [bd0_eq]
  generalize hw : (Sl.va (.lst (ns.map .int))) = w
  obtain ⟨S0, e0, p0⟩ := pen_call (n := 26) (ns := ns)
  rw [x_cons (v' := [w, .va (.dr 0), .un, .un, .un, .un, .un, .un, .un, .un, .un, .un, .un, .un, .un, .un]) (S' := S0) (by
    refine x_asg ?_
    rw [c_call (l := [.lst (ns.map .int)]) (S1 := []) (e_evs (e_var (by rw [hw]; rfl)) e_evs_nil)]
    exact e0)]
  obtain ⟨m, S1, e1, hm, p1⟩ := draw_call (n := 26) (m := 7) p0 (by decide) (by decide) (by decide)
  obtain ⟨n, S2, e2, hn, p2⟩ := draw_call (n := 26) (m := 7) p1 (by decide) (by decide) (by decide)
  rw [x_cons (v' := envA w m n) (S' := S2) (by
    show xs1 Gr (.par 6 false (.call 2 (.cons (.var 1) (.cons (.int 7) .nil))) 7 false (.call 2 (.cons (.var 1) (.cons (.int 7) .nil)))) _ _ = _
    have d1 : ev Gr (.call 2 (.cons (.var 1) (.cons (.int 7) .nil))) [w, .va (.dr 0), .un, .un, .un, .un, .un, .un, .un, .un, .un, .un, .un, .un, .un, .un] S0 = .ok (nD m) S1 := by
      rw [c_call (l := [.dr 0, .int 7]) (S1 := S0) (e_evs (e_var rfl) (e_evs e_int e_evs_nil))]; exact e1
    have d2 : ev Gr (.call 2 (.cons (.var 1) (.cons (.int 7) .nil))) [w, .va (.dr 0), .un, .un, .un, .un, .un, .un, .un, .un, .un, .un, .un, .un, .un, .un] S1 = .ok (nD n) S2 := by
      rw [c_call (l := [.dr 0, .int 7]) (S1 := S1) (e_evs (e_var rfl) (e_evs e_int e_evs_nil))]; exact e2
    rw [xs1, d1]
    simp only [R.bind, d2]
    rfl)]
  obtain ⟨v, eA, v1, vl⟩ := partA (w := w) (S := S2) hm hn
  rw [xss_app, eA]
  simp only [R.bind]
  obtain ⟨x, S3, e3, hx, p3⟩ := pick_call (n := 25) (i := 14) (f := ff14) (l := odds) rfl rfl p2 (by decide) (by decide)
  obtain ⟨y, S4, e4, hy, p4⟩ := pick_call (n := 25) (i := 14) (f := ff14) (l := odds) rfl rfl p3 (by decide) (by decide)
  match v, vl, v1 with
  | [w0, w1, w2, w3, w4, w5, w6, w7, w8, w9, w10, w11, w12, w13, w14, w15], _, v1 =>
    have v1 : w1 = .va (.dr 0) := Option.some.inj v1
    subst v1
    rw [x_cons (v' := envC w0 (.va (.dr 0)) w2 w3 w4 w5 w6 w7 w8 w9 w10 w11 w12 w15 x y) (S' := S4) (by
      have d1 : ev Gr (.call 14 (.cons (.var 1) (.cons (.lst (.cons (.neg (.int 1)) (.cons (.int 7) (.cons (.non) (.cons (.bl true) (.cons (.str [50]) .nil)))))) .nil))) [w0, .va (.dr 0), w2, w3, w4, w5, w6, w7, w8, w9, w10, w11, w12, w13, w14, w15] S2 = .ok x S3 := by
        rw [c_call (l := [.dr 0, .lst odds]) (S1 := S2) (e_evs (e_var rfl) (e_evs e_odds e_evs_nil))]; exact e3
      have d2 : ev Gr (.call 14 (.cons (.var 1) (.cons (.lst (.cons (.neg (.int 1)) (.cons (.int 7) (.cons (.non) (.cons (.bl true) (.cons (.str [50]) .nil)))))) .nil))) [w0, .va (.dr 0), w2, w3, w4, w5, w6, w7, w8, w9, w10, w11, w12, w13, w14, w15] S3 = .ok y S4 := by
        rw [c_call (l := [.dr 0, .lst odds]) (S1 := S3) (e_evs (e_var rfl) (e_evs e_odds e_evs_nil))]; exact e4
      show xs1 Gr (.asgT [13, 14] (.tup (.cons (.call 14 (.cons (.var 1) (.cons (.lst (.cons (.neg (.int 1)) (.cons (.int 7) (.cons (.non) (.cons (.bl true) (.cons (.str [50]) .nil)))))) .nil))) (.cons (.call 14 (.cons (.var 1) (.cons (.lst (.cons (.neg (.int 1)) (.cons (.int 7) (.cons (.non) (.cons (.bl true) (.cons (.str [50]) .nil)))))) .nil))) .nil)))) _ _ = _
      rw [xs1, ev, e_evs d1 (e_evs d2 e_evs_nil)]
      rfl)]
    rw [partC hx hy]
    exact ⟨S4, rfl⟩
end Mi.L71

set_option Elab.async false
set_option linter.all false
set_option maxRecDepth 100000
set_option maxHeartbeats 0
namespace Mi.L71
open Mi
theorem fns_eq : (Mi.Law.table.defs.map (·.f)) = fns := by rfl
theorem cls_eq : (Mi.Law.table.clss.map (·.cl)) = clss := by rfl
theorem cons_eq : (Mi.Law.table.cons.map (·.2)) = cons := by rfl
theorem cos_eq : (Mi.Law.table.cos.map (·.co)) = cos := by rfl
theorem xats_eq : (Mi.Law.table.excs.map (·.fs)) = xats := by rfl
theorem pg_eq : Mi.pgOf Mi.Law.table = P := by
  unfold Mi.pgOf P
  congr 1
  · funext i; rw [← List.getElem?_map, fns_eq]
  · funext i; rw [← List.getElem?_map, cls_eq]
  · funext i; rw [← List.getElem?_map, cons_eq]
  · funext i; rw [← List.getElem?_map, cos_eq]
  · funext c
    rw [← xats_eq, List.getElem?_map]
    cases Mi.Law.table.excs[c]? <;> rfl
theorem law69 : ∀ ns : List Int, ns.length ≤ 63 → ∃ S, Mi.callN (Mi.pgOf Mi.Law.table) 100000 28 0 [.lst (ns.map .int)] [] = .ok (.bl true) S := fun ns _ => by
  rw [pg_eq]; exact law_pure ns
end Mi.L71
open PySem PySem.W PySem.Calls PyProof.Rows
theorem PySem.Challenge.cw_matchroots_k69_whole_products_as_sums_holds : PySem.Challenge.rw_matchroots_k69_whole_products_as_sums.Holds := by
  w_on; o_law
  refine HandSHeadRun.head_imp (r := OpenLaw.row PySem.Challenge.rw_matchroots_k69_whole_products_as_sums) (q := view (OpenLaw.row PySem.Challenge.rw_matchroots_k69_whole_products_as_sums).prog [0, 59]) (H := Mi.Law.hk) (ob := Mi.Law.ob) (M := 12000) (loose := Mi.Law.nm0 ++ Mi.Law.nm1) (d := HandSHeadRun.topDef (OpenLaw.row PySem.Challenge.rw_matchroots_k69_whole_products_as_sums).prog 59) (kwd := []) Mi.Law.ob_eq Mi.Law.run
    (by kernel_rfl) (by kernel_rfl) (by rfl) (by decide +kernel) (by decide +kernel) (by kernel_rfl) ⟨rfl, rfl, rfl, rfl, rfl, by decide +kernel⟩ ?hw ?hc
  case hw => w_witness2
  case hc =>
    exact Mi.law_end (l := PySem.Challenge.rw_matchroots_k69_whole_products_as_sums) (n := 63) (x := "script") (L := Mi.Law.table) (fuel := 100000) (N := 28) (i0 := 0) (d0 := Mi.Law.fd0) rfl (by decide) (by kernel_rfl) ⟨rfl, by decide, by decide⟩ rfl rfl rfl rfl rfl rfl (by kernel_rfl) rfl Mi.Law.st_ok Mi.Law.bnd
      (fun K a fd F s u => L2.FunD.bindsA (ps := ["script"]) F (fun _ _ _ _ _ _ us hl => match us, hl with | [_], _ => rfl) s [u] rfl)
      Mi.Law.bndX Mi.Law.bndK rfl (by decide +kernel)
      (fun w h z => z) Mi.L71.law69

