import PyProof.Rows.All
import Wide.All
import OpenK.AllK
import Wide.FinOn
import HandS.ForMost
import HandS.TupAny
import HandS.IsInst
import HandS.ReplaceLit
import HandS.More
import HandS.RaiseMore
import HandS.ReplaceList
import KE.KxText
import PyProof.StrLawsRepr
import KE.KIntText
import PySem.Challenge.RW_indoubt_k77_tokens_of_a_text
set_option Elab.async false
set_option linter.all false
set_option maxRecDepth 100000
set_option autoImplicit false
/-! M3a: data, compact syntax, the small interpreter. -/
namespace M3
open PySem

/-- data without addresses; lists here are never changed again -/
inductive D where
  | non
  | bl (b : Bool)
  | int (i : Int)
  | str (s : List Nat)
  | tup (xs : List D)
  | lst (xs : List D)
  | scr (xs : List Int)
  | kst (ks : List (List Nat))
  | fn (f : Nat)
  | ty (n : String)
  | ref (r : Nat)
  deriving Inhabited

/-- what an expression gives: a datum, or a list that nobody else holds -/
inductive T where
  | v (d : D)
  | own (xs : List D)
  deriving Inhabited

abbrev Sto := List (List D)
abbrev Sl := List (Option T)

def T.fz : T → D
  | .v d => d
  | .own xs => .lst xs
/-- the items of a list (owned or not) -/
def T.lst? : T → Option (List D)
  | .v (.lst xs) => some xs
  | .own xs => some xs
  | _ => none
/-- the items of a list or tuple -/
def T.seq? : T → Option (List D)
  | .v (.lst xs) => some xs
  | .v (.tup xs) => some xs
  | .own xs => some xs
  | _ => none

def cap : Nat := 16777216

/-! ### the data of the model -/
mutual
def D.py : D → Option PyData
  | .non => some .none
  | .bl b => some (.bool b)
  | .int i => some (.int i)
  | .str s => some (.str ⟨s.toArray⟩)
  | .tup xs => (D.pyAll xs).map .tuple
  | .lst xs => (D.pyAll xs).map .list
  | _ => none
def D.pyAll : List D → Option (List PyData)
  | [] => some []
  | x :: xs => match D.py x, D.pyAll xs with
    | some d, some ds => some (d :: ds)
    | _, _ => none
end
def D.flat : D → Bool
  | .non => true
  | .bl _ => true
  | .int _ => true
  | .str _ => true
  | _ => false
/-- == of flat data -/
def D.feq : D → D → Bool
  | .non, .non => true
  | .bl a, .bl b => a == b
  | .bl a, .int b => (if a then 1 else 0) == b
  | .int a, .bl b => a == (if b then 1 else 0)
  | .int a, .int b => a == b
  | .str a, .str b => a == b
  | _, _ => false
def eqD (x y : D) : Option Bool :=
  match D.py x, D.py y with
  | some d, some e => if SeqAt.shaped d = true ∧ SeqAt.shaped e = true then some (PyData.eqv d e) else none
  | _, _ => none
/-- the signs of repr(x) -/
def reprD (x : D) : Option (List Nat) :=
  match x with
  | .tup _ | .lst _ | .str _ | .int _ => (match D.py x with
    | some d => if PyData.showable d = true ∧ d.depth ≤ 100 ∧ d.shown.length ≤ cap then some d.shown.cps.toList else none
    | none => none)
  | _ => none

/-! ### operators -/
inductive B2 where | add | sub | mul | fdiv | mod | pow
  deriving DecidableEq
inductive C2 where | eq | ne | lt | le | gt | ge | isIn | notIn | isN | notN
  deriving DecidableEq
def big (i : Int) : Bool := decide (-(2 ^ 64) < i) && decide (i < 2 ^ 64)
def addT (a b : T) : Option T := match a, b with
  | .v (.int i), .v (.int j) => some (.v (.int (i + j)))
  | .v (.str s), .v (.str t) => if s.length + t.length ≤ cap then some (.v (.str (s ++ t))) else none
  | .v (.tup xs), .v (.tup ys) => if xs.length + ys.length ≤ cap then some (.v (.tup (xs ++ ys))) else none
  | a, b => match a.lst?, b.lst? with
    | some xs, some ys => if xs.length + ys.length ≤ cap then some (.own (xs ++ ys)) else none
    | _, _ => none
def subT (a b : T) : Option T := match a, b with
  | .v (.int i), .v (.int j) => some (.v (.int (i - j)))
  | _, _ => none
def mulT (a b : T) : Option T := match a, b with
  | .v (.int i), .v (.int j) => if (big i || big j) = true then some (.v (.int (i * j))) else none
  | .v (.str [c]), .v (.int j) => if 0 ≤ j ∧ j ≤ 1000 then some (.v (.str (List.replicate j.toNat c))) else none
  | _, _ => none
def fdivT (a b : T) : Option T := match a, b with
  | .v (.int i), .v (.int j) => if 0 < j ∧ j < 1073741824 then some (.v (.int (i / j))) else none
  | _, _ => none
def modT (a b : T) : Option T := match a, b with
  | .v (.int i), .v (.int j) => if 0 < j then some (.v (.int (i % j))) else none
  | _, _ => none
def powT (a b : T) : Option T := match a, b with
  | .v (.int i), .v (.int j) => if 0 ≤ j ∧ j ≤ 1000000 ∧ i.natAbs < 2 ^ 64 then some (.v (.int (i ^ j.toNat))) else none
  | _, _ => none
/-- op= on ints -/
def augT (o : B2) (a b : T) : Option T := match o, a, b with
  | .add, .v (.int i), .v (.int j) => some (.v (.int (i + j)))
  | .sub, .v (.int i), .v (.int j) => some (.v (.int (i - j)))
  | _, _, _ => none
def B2.run : B2 → T → T → Option T
  | .add => addT | .sub => subT | .mul => mulT | .fdiv => fdivT | .mod => modT | .pow => powT
/-- is a one-sign text in a text; of a longer one nothing is said -/
def inD (x : D) (y : T) : Option Bool :=
  match x, y with
  | .str [c], .v (.str s) => some (decide (c ∈ s))
  | .str k, .v (.kst ks) => some (decide (k ∈ ks))
  | x, y => match y.seq? with
    | some ys => if x.flat && ys.all D.flat then some (ys.any fun y => y.feq x) else none
    | none => none
def eqT (a b : T) : Option Bool := match a.fz, b.fz with
  | .int i, .int j => some (decide (i = j))
  | .str s, .str t => some (decide (s = t))
  | .bl s, .bl t => some (decide (s = t))
  | x, y => eqD x y
def int2 (f : Int → Int → Bool) (a b : T) : Option Bool := match a, b with
  | .v (.int i), .v (.int j) => some (f i j)
  | _, _ => none
def isNT (a b : T) : Option Bool := match b with
  | .v .non => (match a with | .v .non => some true | _ => some false)
  | _ => none
def C2.run : C2 → T → T → Option Bool
  | .eq => eqT
  | .ne => fun a b => (eqT a b).map (!·)
  | .lt => int2 fun i j => decide (i < j)
  | .le => int2 fun i j => decide (i ≤ j)
  | .gt => int2 fun i j => decide (j < i)
  | .ge => int2 fun i j => decide (j ≤ i)
  | .isIn => fun a b => inD a.fz b
  | .notIn => fun a b => (inD a.fz b).map (!·)
  | .isN => isNT
  | .notN => fun a b => (isNT a b).map (!·)
/-- truth -/
def T.truth : T → Option Bool
  | .v .non => some false
  | .v (.bl b) => some b
  | .v (.int i) => some (i != 0)
  | .v (.str s) => if s.length ≤ cap then some (s.length != 0) else none
  | .v (.tup xs) => some (!xs.isEmpty)
  | .v (.lst xs) => some (!xs.isEmpty)
  | .own xs => some (!xs.isEmpty)
  | _ => none
/-- the place that an index names -/
abbrev ixOf (n : Nat) (i : Int) : Option Nat := L2.ixN n i
def getD (x : T) (i : Int) (S : Sto) : Option D :=
  match x with
  | .v (.str s) => if s.length ≤ cap then ((ixOf s.length i).bind fun j => s[j]?).map fun c => .str [c] else none
  | .v (.ref r) => (S[r]?).bind fun xs => (ixOf xs.length i).bind fun j => xs[j]?
  | .v (.scr xs) => ((ixOf xs.length i).bind fun j => xs[j]?).map .int
  | x => (x.seq?).bind fun xs => (ixOf xs.length i).bind fun j => xs[j]?
/-- a bound of a slice -/
abbrev sIx (n d : Nat) (o : Option Int) : Nat := HT.sIx n d o
def cut {α : Type} (xs : List α) (lo hi : Option Int) : List α := (xs.drop (sIx xs.length 0 lo)).take (sIx xs.length xs.length hi - sIx xs.length 0 lo)
def slD (x : T) (lo hi : Option Int) : Option T :=
  match x with
  | .v (.str s) => if s.length ≤ cap then some (.v (.str (cut s lo hi))) else none
  | .v (.tup xs) => some (.v (.tup (cut xs lo hi)))
  | .v (.lst xs) => some (.own (cut xs lo hi))
  | .own xs => some (.own (cut xs lo hi))
  | _ => none

/-! ### built-in calls of one argument -/
inductive P1 where | abs | int | len | list | tuple | str | repr | all
  deriving DecidableEq
def strs? : List D → Option (List (List Nat))
  | [] => some []
  | .str s :: r => (strs? r).map (s :: ·)
  | _ :: _ => none
def bls? : List D → Option (List Bool)
  | [] => some []
  | .bl s :: r => (bls? r).map (s :: ·)
  | _ :: _ => none
/-- the decimal signs of an int -/
def decI (i : Int) : List Nat := (toString i).toList.map Char.toNat
def P1.run : P1 → T → Option T
  | .abs, .v (.int i) => some (.v (.int (if i < 0 then -i else i)))
  | .int, .v (.int i) => some (.v (.int i))
  | .int, .v (.bl b) => some (.v (.int (if b then 1 else 0)))
  | .int, .v (.str s) => if s.length ≤ 640 then (PySem.intText? ⟨s.toArray⟩).map fun n => .v (.int n) else none
  | .len, x => (match x with
    | .v (.str s) => if s.length ≤ cap then some (.v (.int s.length)) else none
    | .v (.scr xs) => some (.v (.int xs.length))
    | x => x.seq?.map fun xs => .v (.int xs.length))
  | .list, x => (match x with
    | .v (.scr xs) => some (.own (xs.map .int))
    | x => x.seq?.map .own)
  | .tuple, x => x.seq?.map fun xs => .v (.tup xs)
  | .str, .v (.int i) => if i.natAbs.log2 < 1920 then some (.v (.str (decI i))) else none
  | .repr, x => (reprD x.fz).map fun s => .v (.str s)
  | .all, x => (x.lst?.bind bls?).map fun bs => .v (.bl (bs.all id))
  | _, _ => none
/-- joined texts -/
def joinN (s : List Nat) : List (List Nat) → List Nat
  | [] => []
  | [x] => x
  | x :: y :: r => x ++ (s ++ joinN s (y :: r))
def joinD (s : D) (x : T) : Option D :=
  match s, x.seq?.bind strs? with
  | .str s, some ys => if (ys.map (·.length)).sum + ys.length * s.length ≤ cap then some (.str (joinN s ys)) else none
  | _, _ => none
/-- every sign y doubled -/
def dbl (y : Nat) (s : List Nat) : List Nat := s.flatMap fun c => if c = y then [y, y] else [c]
end M3
/-! M3b: compact syntax and what it does. -/
namespace M3
open PySem

inductive Pat where
  | one (i : Nat)
  | tup (is : List Nat)
  deriving DecidableEq
inductive CE where
  | no
  | int (i : Int)
  | str (s : List Nat)
  | bl (b : Bool)
  | non
  | var (i : Nat)
  | glob (i : Nat)
  | fnv (f : Nat)
  | bin (o : B2) (a b : CE)
  | neg (a : CE)
  | not (a : CE)
  | and (a b : CE)
  | or (a b : CE)
  | cmp (o : C2) (a b : CE)
  | cond (c a b : CE)
  | call (f : Nat) (es : List CE)
  | callv (i : Nat) (es : List CE)
  | p1 (p : P1) (a : CE)
  | max2 (a b : CE)
  | isStr (a : CE)
  | join (s a : CE)
  | addRepl (s : List Nat) (y : Nat) (a : CE)
  | idx (a i : CE)
  | sl (a lo hi : CE)
  | tup (es : List CE)
  | lst (es : List CE)
  | tape (es : List CE)
  | lc (vs : List Nat) (p : Pat) (it c e : CE)
  | iRng (a : CE)
  deriving Inhabited
inductive CS where
  | set (i : Nat) (e : CE)
  | setO (i : Nat) (e : CE)
  | setT (is : List Nat) (e : CE)
  | setIx (i : Nat) (ix e : CE)
  | aug (i : Nat) (o : B2) (e : CE)
  | app (i : Nat) (e : CE)
  | ext (i : Nat) (e : CE)
  | ex (e : CE)
  | ret (e : CE)
  | retN
  | ifs (c : CE) (a b : List CS)
  | whl (c : CE) (b : List CS)
  | for1 (p : Pat) (it : CE) (b : List CS)
  | brk | cnt | pass | never
  | frz (i : Nat)
  deriving Inhabited

structure Cf where
  call : Nat → List D → Sto → Option (T × Sto)
  glob : Nat → D
  fuel : Nat

abbrev RE := Sl → Sto → Option (T × Sto)
structure Sm where
  e : RE
  b : RE
  t : Sl → Sto → Option (Bool × Sto)
  i : Sl → Sto → Option (List D × Sto)
  isNo : Bool := false

def truthOf (b : RE) : Sl → Sto → Option (Bool × Sto) := fun σ S => match b σ S with
  | some (x, S1) => x.truth.map fun k => (k, S1)
  | none => none
def itemsOf (x : T) : Option (List D) := match x with
  | .v (.scr xs) => some (xs.map .int)
  | x => x.seq?
def itemsR (e : RE) : Sl → Sto → Option (List D × Sto) := fun σ S => match e σ S with
  | some (x, S1) => (itemsOf x).map fun xs => (xs, S1)
  | none => none
/-- the plain readings -/
def Sm.of (e : RE) : Sm := ⟨e, e, truthOf e, itemsR e, false⟩
def Sm.none : Sm := ⟨fun _ _ => .none, fun _ _ => .none, fun _ _ => .none, fun _ _ => .none, true⟩
def bind2 (a b : RE) (f : T → T → Sto → Option (T × Sto)) : RE := fun σ S => match a σ S with
  | some (x, S1) => (match b σ S1 with
    | some (y, S2) => f x y S2
    | Option.none => Option.none)
  | Option.none => Option.none
def bind1 (a : RE) (f : T → Sto → Option (T × Sto)) : RE := fun σ S => match a σ S with
  | some (x, S1) => f x S1
  | Option.none => Option.none
def tst (x : T) (S : Sto) : Option (Bool × Sto) := match x with
  | .v (.bl b) => some (b, S)
  | _ => none
/-- a value that is a bool, as a test -/
def asTest (e : RE) : Sl → Sto → Option (Bool × Sto) := fun σ S => match e σ S with
  | some (x, S1) => tst x S1
  | none => none
def fzs (xs : List T) : List D := xs.map T.fz
def wipe (σ : Sl) : List Nat → Sl
  | [] => σ
  | v :: vs => (wipe σ vs).set v none
def setAll (σ : Sl) : List Nat → List D → Option Sl
  | [], [] => some σ
  | i :: is, d :: ds => setAll (σ.set i (some (.v d))) is ds
  | _, _ => none
def Pat.put (p : Pat) (d : D) (σ : Sl) : Option Sl := match p with
  | .one i => some (σ.set i (some (.v d)))
  | .tup is => (match d with
    | .tup ds => setAll σ is ds
    | _ => none)
def lcL (p : Pat) (vs : List Nat) (c : Sl → Sto → Option (Bool × Sto)) (e : RE) (σ : Sl) : List D → List D → Sto → Option (List D × Sto)
  | [], acc, S => some (acc, S)
  | d :: ds, acc, S => match p.put d (wipe σ vs) with
    | some σ1 => (match c σ1 S with
      | some (true, S1) => (match e σ1 S1 with
        | some (x, S2) => if acc.length < cap then lcL p vs c e σ ds (acc ++ [x.fz]) S2 else none
        | none => none)
      | some (false, S1) => lcL p vs c e σ ds acc S1
      | none => none)
    | none => none
def optI (m : Sm) (σ : Sl) (S : Sto) : Option (Option Int × Sto) := if m.isNo then some (none, S) else match m.b σ S with
  | some (.v (.int i), S1) => some (some i, S1)
  | _ => none
def varB (i : Nat) : RE := fun σ S => match σ[i]? with
  | some (some x) => some (x, S)
  | _ => none
def varE (i : Nat) : RE := fun σ S => match σ[i]? with
  | some (some (.v d)) => some (.v d, S)
  | _ => none

def negR (a : RE) : RE := bind1 a fun x S => match x with
  | .v (.int i) => some (.v (.int (-i)), S)
  | _ => none
def notR (a : RE) : RE := bind1 a fun x S => match x with
  | .v (.bl b) => some (.v (.bl (!b)), S)
  | _ => none
def notT (a : Sl → Sto → Option (Bool × Sto)) : Sl → Sto → Option (Bool × Sto) := fun σ S => (a σ S).map fun q => (!q.1, q.2)
def andR (a b : RE) : RE := fun σ S => match a σ S with
  | some (.v (.bl true), S1) => b σ S1
  | some (.v (.bl false), S1) => some (.v (.bl false), S1)
  | _ => none
def orR (a b : RE) : RE := fun σ S => match a σ S with
  | some (.v (.bl false), S1) => b σ S1
  | some (.v (.bl true), S1) => some (.v (.bl true), S1)
  | _ => none
def andT (a b : Sl → Sto → Option (Bool × Sto)) : Sl → Sto → Option (Bool × Sto) := fun σ S => match a σ S with
  | some (true, S1) => b σ S1
  | some (false, S1) => some (false, S1)
  | none => none
def orT (a b : Sl → Sto → Option (Bool × Sto)) : Sl → Sto → Option (Bool × Sto) := fun σ S => match a σ S with
  | some (false, S1) => b σ S1
  | some (true, S1) => some (true, S1)
  | none => none
def condR (c : Sl → Sto → Option (Bool × Sto)) (a b : RE) : RE := fun σ S => match c σ S with
  | some (true, S1) => a σ S1
  | some (false, S1) => b σ S1
  | none => none
def callR (f : List D → Sto → Option (T × Sto)) (es : Sl → Sto → Option (List T × Sto)) : RE := fun σ S => match es σ S with
  | some (xs, S1) => f (fzs xs) S1
  | none => none
def callvR (call : Nat → List D → Sto → Option (T × Sto)) (i : Nat) (es : Sl → Sto → Option (List T × Sto)) : RE := fun σ S => match σ[i]? with
  | some (some (.v (.fn f))) => callR (call f) es σ S
  | _ => none
def max2T (x y : T) : Option T := match x, y with
  | .v (.int i), .v (.int j) => some (.v (.int (if j > i then j else i)))
  | _, _ => none
def isStrT (x : T) : Option T := match x with
  | .v (.str _) => some (.v (.bl true))
  | .v (.int _) => some (.v (.bl false))
  | _ => none
def addReplT (s : List Nat) (y : Nat) (x : T) : Option T := match x with
  | .v (.str z) => if z.length + (z.length + 1) * 2 + s.length ≤ cap then some (.v (.str (s ++ dbl y z))) else none
  | _ => none
def idxT (x y : T) (S : Sto) : Option (T × Sto) := match y with
  | .v (.int i) => (getD x i S).map fun d => (.v d, S)
  | _ => none
def cutR (a : RE) (lo hi : Sl → Sto → Option (Option Int × Sto)) : RE := fun σ S => match a σ S with
  | some (x, S1) => (match lo σ S1 with
    | some (l, S2) => (match hi σ S2 with
      | some (h, S3) => (slD x l h).map fun z => (z, S3)
      | none => none)
    | none => none)
  | none => none
def dispR (f : List D → Sto → T × Sto) (es : Sl → Sto → Option (List T × Sto)) : RE := fun σ S => match es σ S with
  | some (xs, S1) => if xs.length ≤ cap then some (f (fzs xs) S1) else none
  | none => none
def testsR (m : Sm) : Sl → Sto → Option (Bool × Sto) := if m.isNo then fun _ S => some (true, S) else m.t
def lcR (p : Pat) (vs : List Nat) (it : Sl → Sto → Option (List D × Sto)) (c : Sl → Sto → Option (Bool × Sto)) (e : RE) : RE := fun σ S => match it σ S with
  | some (ds, S1) => (lcL p vs c e σ ds [] S1).map fun q => (.own q.1, q.2)
  | none => none
def rngR (a : RE) : Sl → Sto → Option (List D × Sto) := fun σ S => match a σ S with
  | some (.v (.int j), S1) => if -(2 ^ 62) ≤ j ∧ j < 2 ^ 62 then some ((List.range j.toNat).map fun (k : Nat) => .int (k : Int), S1) else none
  | _ => none
def argsR (a : RE) (as : Sl → Sto → Option (List T × Sto)) : Sl → Sto → Option (List T × Sto) := fun σ S => match a σ S with
  | some (x, S1) => (match as σ S1 with
    | some (xs, S2) => some (x :: xs, S2)
    | none => none)
  | none => none
def lift1 (f : T → Option T) (x : T) (S : Sto) : Option (T × Sto) := (f x).map fun z => (z, S)
def lift2 (f : T → T → Option T) (x y : T) (S : Sto) : Option (T × Sto) := (f x y).map fun z => (z, S)
def lift2b (f : T → T → Option Bool) (x y : T) (S : Sto) : Option (T × Sto) := (f x y).map fun k => (.v (.bl k), S)
section
variable (cf : Cf)
mutual
def sem : CE → Sm
  | .no => .none
  | .int i => .of fun _ S => some (.v (.int i), S)
  | .str s => .of fun _ S => some (.v (.str s), S)
  | .bl b => .of fun _ S => some (.v (.bl b), S)
  | .non => .of fun _ S => some (.v .non, S)
  | .var i => ⟨varE i, varB i, truthOf (varB i), itemsR (varE i), false⟩
  | .glob i => .of fun _ S => some (.v (cf.glob i), S)
  | .fnv f => .of fun _ S => some (.v (.fn f), S)
  | .bin o a b => .of (bind2 (sem a).b (sem b).b (lift2 o.run))
  | .neg a => .of (negR (sem a).b)
  | .not a => ⟨notR (sem a).e, notR (sem a).e, notT (sem a).t, fun _ _ => none, false⟩
  | .and a b => ⟨andR (sem a).e (sem b).e, andR (sem a).e (sem b).e, andT (sem a).t (sem b).t, fun _ _ => none, false⟩
  | .or a b => ⟨orR (sem a).e (sem b).e, orR (sem a).e (sem b).e, orT (sem a).t (sem b).t, fun _ _ => none, false⟩
  | .cmp o a b => ⟨bind2 (sem a).b (sem b).b (lift2b o.run), bind2 (sem a).b (sem b).b (lift2b o.run), asTest (bind2 (sem a).b (sem b).b (lift2b o.run)), fun _ _ => none, false⟩
  | .cond c a b => ⟨condR (sem c).t (sem a).e (sem b).e, condR (sem c).t (sem a).e (sem b).e, fun _ _ => none, itemsR (condR (sem c).t (sem a).e (sem b).e), false⟩
  | .call f es => .of (callR (cf.call f) (sems es))
  | .callv i es => .of (callvR cf.call i (sems es))
  | .p1 p a => .of (bind1 (sem a).b (lift1 p.run))
  | .max2 a b => .of (bind2 (sem a).b (sem b).b (lift2 max2T))
  | .isStr a => .of (bind1 (sem a).b (lift1 isStrT))
  | .join s a => .of (bind2 (sem s).b (sem a).b (lift2 fun x y => (joinD x.fz y).map .v))
  | .addRepl s y a => .of (bind1 (sem a).b (lift1 (addReplT s y)))
  | .idx a i => .of (bind2 (sem a).b (sem i).b idxT)
  | .sl a lo hi => .of (cutR (sem a).b (optI (sem lo)) (optI (sem hi)))
  | .tup es => .of (dispR (fun ds S => (.v (.tup ds), S)) (sems es))
  | .lst es => .of (dispR (fun ds S => (.own ds, S)) (sems es))
  | .tape es => .of (dispR (fun ds S => (.v (.ref S.length), S ++ [ds])) (sems es))
  | .lc vs p it c e => .of (lcR p vs (sem it).i (testsR (sem c)) (sem e).e)
  | .iRng a => ⟨fun _ _ => none, fun _ _ => none, fun _ _ => none, rngR (sem a).b, false⟩
def sems : List CE → Sl → Sto → Option (List T × Sto)
  | [] => fun _ S => some ([], S)
  | c :: cs => argsR (sem c).e (sems cs)
end
end

/-! ### statements -/
inductive Fl where
  | nx | bk | ct
  | rt (x : T)
abbrev RS := Sl → Sto → Option (Fl × Sl × Sto)
def whileL (c : Sl → Sto → Option (Bool × Sto)) (b : RS) : Nat → RS
  | 0, _, _ => none
  | n + 1, σ, S => match c σ S with
    | some (true, S1) => (match b σ S1 with
      | some (.nx, σ2, S2) => whileL c b n σ2 S2
      | some (.ct, σ2, S2) => whileL c b n σ2 S2
      | some (.bk, σ2, S2) => some (.nx, σ2, S2)
      | some (.rt x, σ2, S2) => some (.rt x, σ2, S2)
      | none => none)
    | some (false, S1) => some (.nx, σ, S1)
    | none => none
def forL (p : Pat) (b : RS) : List D → RS
  | [], σ, S => some (.nx, σ, S)
  | d :: ds, σ, S => match p.put d σ with
    | some σ1 => (match b σ1 S with
      | some (.nx, σ2, S2) => forL p b ds σ2 S2
      | some (.ct, σ2, S2) => forL p b ds σ2 S2
      | some (.bk, σ2, S2) => some (.nx, σ2, S2)
      | some (.rt x, σ2, S2) => some (.rt x, σ2, S2)
      | none => none)
    | none => none
/-- what a name is bound to: a list made here stays owned -/
def putT (i : Nat) (x : T) (σ : Sl) : Sl := σ.set i (some x)
def setIxS (i : Nat) (k : Int) (d : D) (σ : Sl) (S : Sto) : Option (Fl × Sl × Sto) := match σ[i]? with
  | some (some (.v (.ref r))) => (match S[r]? with
    | some xs => (ixOf xs.length k).map fun j => (.nx, σ, S.set r (xs.set j d))
    | none => none)
  | some (some (.own xs)) => (ixOf xs.length k).map fun j => (.nx, σ.set i (some (.own (xs.set j d))), S)
  | _ => none
def appS (i : Nat) (ds : List D) (σ : Sl) (S : Sto) : Option (Fl × Sl × Sto) := match σ[i]? with
  | some (some (.own xs)) => if xs.length + ds.length ≤ cap then some (.nx, σ.set i (some (.own (xs ++ ds))), S) else none
  | _ => none
def seqS (a b : RS) : RS := fun σ S => match a σ S with
  | some (.nx, σ1, S1) => b σ1 S1
  | r => r
def setS (i : Nat) (e : RE) : RS := fun σ S => match e σ S with
  | some (x, S1) => some (.nx, putT i (.v x.fz) σ, S1)
  | none => none
def setOS (i : Nat) (e : RE) : RS := fun σ S => match e σ S with
  | some (x, S1) => some (.nx, putT i x σ, S1)
  | none => none
def setTS (is : List Nat) (e : RE) : RS := fun σ S => match e σ S with
  | some (.v (.tup ds), S1) => (setAll σ is ds).map fun σ1 => (.nx, σ1, S1)
  | _ => none
def setIS (i : Nat) (ix e : RE) : RS := fun σ S => match e σ S with
  | some (x, S1) => (match ix σ S1 with
    | some (.v (.int k), S2) => setIxS i k x.fz σ S2
    | _ => none)
  | none => none
def augS (i : Nat) (o : B2) (e : RE) : RS := fun σ S => match varE i σ S with
  | some (x, _) => (match e σ S with
    | some (y, S1) => (augT o x y).map fun z => (.nx, putT i z σ, S1)
    | none => none)
  | none => none
def app1S (i : Nat) (e : RE) : RS := fun σ S => match e σ S with
  | some (x, S1) => appS i [x.fz] σ S1
  | none => none
def extS (i : Nat) (e : RE) : RS := fun σ S => match e σ S with
  | some (x, S1) => (match x.lst? with
    | some ds => appS i ds σ S1
    | none => none)
  | none => none
def exS (e : RE) : RS := fun σ S => match e σ S with
  | some (_, S1) => some (.nx, σ, S1)
  | none => none
def retS (e : RE) : RS := fun σ S => match e σ S with
  | some (x, S1) => some (.rt x, σ, S1)
  | none => none
def ifS (c : Sl → Sto → Option (Bool × Sto)) (a b : RS) : RS := fun σ S => match c σ S with
  | some (true, S1) => a σ S1
  | some (false, S1) => b σ S1
  | none => none
def forS (p : Pat) (it : Sl → Sto → Option (List D × Sto)) (b : RS) : RS := fun σ S => match it σ S with
  | some (ds, S1) => forL p b ds σ S1
  | none => none
def frzS (i : Nat) : RS := fun σ S => match σ[i]? with
  | some (some x) => some (.nx, σ.set i (some (.v x.fz)), S)
  | _ => none
section
variable (cf : Cf)
mutual
def exec : CS → RS
  | .set i e => setS i (sem cf e).e
  | .setO i e => setOS i (sem cf e).e
  | .setT is e => setTS is (sem cf e).e
  | .setIx i ix e => setIS i (sem cf ix).b (sem cf e).e
  | .aug i o e => augS i o (sem cf e).b
  | .app i e => app1S i (sem cf e).e
  | .ext i e => extS i (sem cf e).e
  | .ex e => exS (sem cf e).e
  | .ret e => retS (sem cf e).b
  | .retN => fun σ S => some (.rt (.v .non), σ, S)
  | .ifs c a b => ifS (sem cf c).t (execs a) (execs b)
  | .whl c b => whileL (sem cf c).t (execs b) cf.fuel
  | .for1 p it b => forS p (sem cf it).i (execs b)
  | .brk => fun σ S => some (.bk, σ, S)
  | .cnt => fun σ S => some (.ct, σ, S)
  | .pass => fun σ S => some (.nx, σ, S)
  | .never => fun _ _ => none
  | .frz i => frzS i
def execs : List CS → RS
  | [] => fun σ S => some (.nx, σ, S)
  | c :: cs => seqS (exec c) (execs cs)
end
end

/-! ### defs -/
structure FD where
  np : Nat
  nl : Nat
  body : List CS
structure Pg where
  fds : List FD
  globs : List D
  fuel : Nat
def Pg.glob (P : Pg) (i : Nat) : D := P.globs.getD i .non
def startS (fd : FD) (args : List D) : Sl := args.map (fun d => some (.v d)) ++ List.replicate (fd.nl - args.length) none
def outOf (r : Option (Fl × Sl × Sto)) : Option (T × Sto) := match r with
  | some (.rt x, _, S) => some (x, S)
  | some (.nx, _, S) => some (.v .non, S)
  | _ => none
def runF (cf : Cf) (fd : FD) (args : List D) (S : Sto) : Option (T × Sto) :=
  if args.length = fd.np then outOf (execs cf fd.body (startS fd args) S) else none
def call (P : Pg) : Nat → Nat → List D → Sto → Option (T × Sto)
  | 0, _, _, _ => none
  | k + 1, f, args, S => match P.fds[f]? with
    | some fd => runF ⟨call P k, P.glob, P.fuel⟩ fd args S
    | none => none
def Pg.cf (P : Pg) (k : Nat) : Cf := ⟨call P k, P.glob, P.fuel⟩
theorem call_succ (P : Pg) (k f : Nat) (args : List D) (S : Sto) : call P (k + 1) f args S = match P.fds[f]? with
    | some fd => runF (P.cf k) fd args S
    | none => none := rfl
end M3
/-! M3c: how the data lie in the abstract heap. -/
namespace M3
open PySem PySem.Spec PyProof.Rows L2

/-- the module's facts -/
structure Gm where
  prog : Program
  w : World
  K : PySem.W.Frag
  mg : Str → Option Value
  base : Heap
  fa : Nat → Option Addr

/-- F: the lists that are never changed again; mu: where the store's lists stand -/
structure Wd where
  F : Addr → Prop
  H : Hp
  mu : List Addr
  S : Sto

/-- a dict of the module with text keys -/
def KstAt (K : PySem.W.Frag) (w : World) (a : Addr) (ks : List (List Nat)) : Prop :=
  ∃ es n, KDict K w a es n ∧ ∀ z : List Nat, ∃ r, PySem.W.nsIn K a ⟨z.toArray⟩ = some r ∧ r.isSome = decide (z ∈ ks)
/-- a list that is only read: the script -/
def ScrAt (K : PySem.W.Frag) (H : Hp) (a : Addr) (xs : List V) : Prop := (∃ o, H a = some (.frz o (.lst xs))) ∨ SqL K (fun _ => none) a xs
theorem ScrAt.sq {K : PySem.W.Frag} {H : Hp} {a : Addr} {xs : List V} (h : ScrAt K H a xs) : SqL K H a xs := by
  rcases h with ⟨o, h⟩ | (h | h)
  · exact .inl (.inr ⟨o, h⟩)
  · rcases h with h | ⟨o, h⟩ <;> cases h
  · exact .inr h
mutual
inductive RV (G : Gm) (W : Wd) : V → D → Prop
  | non : RV G W .non .non
  | bl (b : Bool) : RV G W (.bl b) (.bl b)
  | int (i : Int) : RV G W (.int i) (.int i)
  | str (s : List Nat) : RV G W (.str ⟨s.toArray⟩) (.str s)
  | tup {a : Addr} {vs : List V} {ds : List D} : SqT G.K W.H a vs → RVs G W vs ds → RV G W (.ref a) (.tup ds)
  | lst {a : Addr} {vs : List V} {ds : List D} : W.F a → W.H a = some (.lst vs) → RVs G W vs ds → RV G W (.ref a) (.lst ds)
  | scr {a : Addr} {ns : List Int} : ScrAt G.K W.H a (ns.map V.int) → RV G W (.ref a) (.scr ns)
  | kst {a : Addr} {ks : List (List Nat)} : KstAt G.K G.w a ks → RV G W (.ref a) (.kst ks)
  | fn {a : Addr} {f : Nat} : G.fa f = some a → RV G W (.ref a) (.fn f)
  | ty (n : String) : RV G W (.ty n) (.ty n)
  | ref {a : Addr} {r : Nat} : W.mu[r]? = some a → RV G W (.ref a) (.ref r)
inductive RVs (G : Gm) (W : Wd) : List V → List D → Prop
  | nil : RVs G W [] []
  | cons {v : V} {vs : List V} {d : D} {ds : List D} : RV G W v d → RVs G W vs ds → RVs G W (v :: vs) (d :: ds)
end

/-- what stood for good stands -/
structure Gr (W W' : Wd) : Prop where
  fs : ∀ a, W.F a → W'.F a
  st : ∀ a o, W.F a → W.H a = some o → W'.H a = some o
  tp : ∀ a xs, W.H a = some (.tup xs) → W'.H a = some (.tup xs)
  fz : ∀ a o u, W.H a = some (.frz o u) → W'.H a = some (.frz o u)
  mu : ∃ more, W'.mu = W.mu ++ more
theorem Gr.refl (W : Wd) : Gr W W := ⟨fun _ h => h, fun _ _ _ h => h, fun _ _ h => h, fun _ _ _ h => h, [], by simp⟩
theorem Gr.trans {W W1 W2 : Wd} (a : Gr W W1) (b : Gr W1 W2) : Gr W W2 := by
  refine ⟨fun x h => b.fs x (a.fs x h), fun x o h e => b.st x o (a.fs x h) (a.st x o h e), fun x o e => b.tp x o (a.tp x o e), fun x o u e => b.fz x o u (a.fz x o u e), ?_⟩
  obtain ⟨m1, e1⟩ := a.mu
  obtain ⟨m2, e2⟩ := b.mu
  exact ⟨m1 ++ m2, by rw [e2, e1, List.append_assoc]⟩

mutual
theorem RV.mono {G : Gm} {W W' : Wd} (g : Gr W W') : ∀ {v : V} {d : D}, RV G W v d → RV G W' v d
  | _, _, .non => .non
  | _, _, .bl b => .bl b
  | _, _, .int i => .int i
  | _, _, .str s => .str s
  | _, _, .tup h r => .tup (by
      rcases h with (h | ⟨o, h⟩) | h
      · exact .inl (.inl (g.tp _ _ h))
      · exact .inl (.inr ⟨o, g.fz _ _ _ h⟩)
      · exact .inr h) (RVs.mono g r)
  | _, _, .lst f h r => .lst (g.fs _ f) (g.st _ _ f h) (RVs.mono g r)
  | _, _, .scr h => .scr (by
      rcases h with ⟨o, h⟩ | h
      · exact .inl ⟨o, g.fz _ _ _ h⟩
      · exact .inr h)
  | _, _, .kst h => .kst h
  | _, _, .fn h => .fn h
  | _, _, .ty n => .ty n
  | _, _, .ref h => .ref (by
      obtain ⟨m, e⟩ := g.mu
      rw [e, List.getElem?_append_left (List.getElem?_eq_some_iff.mp h).1]
      exact h)
theorem RVs.mono {G : Gm} {W W' : Wd} (g : Gr W W') : ∀ {vs : List V} {ds : List D}, RVs G W vs ds → RVs G W' vs ds
  | _, _, .nil => .nil
  | _, _, .cons h t => .cons (RV.mono g h) (RVs.mono g t)
end
section
variable {G : Gm} {W : Wd}
theorem RVs.length : ∀ {vs : List V} {ds : List D}, RVs G W vs ds → vs.length = ds.length
  | _, _, .nil => rfl
  | _, _, .cons _ t => congrArg (· + 1) (RVs.length t)
theorem RVs.get : ∀ {vs : List V} {ds : List D} {i : Nat} {d : D}, RVs G W vs ds → ds[i]? = some d → ∃ v, vs[i]? = some v ∧ RV G W v d
  | _, _, _, _, .nil, e => by simp at e
  | _, _, 0, _, .cons h _, e => by simp at e; subst e; exact ⟨_, rfl, h⟩
  | _, _, i + 1, d, .cons _ t, e => by
    obtain ⟨v, h1, h2⟩ := RVs.get (i := i) (d := d) t (by simpa using e)
    exact ⟨v, by simpa using h1, h2⟩
theorem RVs.append : ∀ {vs : List V} {ds : List D} {ws : List V} {es : List D}, RVs G W vs ds → RVs G W ws es → RVs G W (vs ++ ws) (ds ++ es)
  | _, _, _, _, .nil, s => s
  | _, _, _, _, .cons h t, s => .cons h (RVs.append t s)
theorem RVs.take : ∀ {vs : List V} {ds : List D} (n : Nat), RVs G W vs ds → RVs G W (vs.take n) (ds.take n)
  | _, _, 0, _ => .nil
  | _, _, _ + 1, .nil => .nil
  | _, _, n + 1, .cons h t => .cons h (RVs.take n t)
theorem RVs.drop : ∀ {vs : List V} {ds : List D} (n : Nat), RVs G W vs ds → RVs G W (vs.drop n) (ds.drop n)
  | _, _, 0, r => r
  | _, _, _ + 1, .nil => .nil
  | _, _, n + 1, .cons _ t => RVs.drop n t
theorem RVs.set {v : V} {d : D} (h : RV G W v d) : ∀ {vs : List V} {ds : List D} (i : Nat), RVs G W vs ds → RVs G W (vs.set i v) (ds.set i d)
  | _, _, _, .nil => .nil
  | _, _, 0, .cons _ t => .cons h t
  | _, _, i + 1, .cons q t => .cons q (RVs.set h i t)
theorem RVs.ints : ∀ ns : List Int, RVs G W (ns.map V.int) (ns.map D.int)
  | [] => .nil
  | n :: ns => .cons (.int n) (RVs.ints ns)
end

/-- the store's lists stand where mu says -/
structure WOk (G : Gm) (W : Wd) : Prop where
  len : W.mu.length = W.S.length
  nd : W.mu.Nodup
  at' : ∀ (r : Nat) (a : Addr), W.mu[r]? = some a → ∃ vs ds, W.S[r]? = some ds ∧ W.H a = some (.lst vs) ∧ RVs G W vs ds ∧ ¬ W.F a
  fk : ∀ a, W.F a → W.H a ≠ none
theorem WOk.muAt {G : Gm} {W : Wd} (k : WOk G W) {a : Addr} (h : a ∈ W.mu) : ∃ vs, W.H a = some (.lst vs) ∧ ¬ W.F a := by
  obtain ⟨r, hr⟩ := List.getElem?_of_mem h
  obtain ⟨vs, ds, _, h1, _, h2⟩ := k.at' r a hr
  exact ⟨vs, h1, h2⟩
theorem WOk.notMu {G : Gm} {W : Wd} (k : WOk G W) {a : Addr} (h : W.H a = none) : a ∉ W.mu := fun z => by
  obtain ⟨vs, e, _⟩ := k.muAt z
  rw [h] at e
  cases e

/-- a step of an expression, or a call: what was there stays, but for the store -/
structure Ext (W W' : Wd) : Prop where
  fs : ∀ a, W.F a → W'.F a
  st : ∀ a o, W.H a = some o → a ∉ W.mu → W'.H a = some o
  fr : ∀ a, W'.F a → W.F a ∨ W.H a = none
  mu : ∃ more, W'.mu = W.mu ++ more ∧ ∀ a ∈ more, W.H a = none
theorem Ext.refl (W : Wd) : Ext W W := ⟨fun _ h => h, fun _ _ h _ => h, fun _ h => .inl h, [], by simp, fun _ h => nomatch h⟩
section
variable {G : Gm} {W W1 W2 W' : Wd}
theorem Ext.gr (e : Ext W W') (k : WOk G W) : Gr W W' := by
  refine ⟨e.fs, fun a o f h => e.st a o h fun z => ?_, fun a xs h => e.st a _ h fun z => ?_, fun a o u h => e.st a _ h fun z => ?_, ?_⟩
  · obtain ⟨_, _, n⟩ := k.muAt z
    exact n f
  · obtain ⟨_, q, _⟩ := k.muAt z
    rw [h] at q; cases q
  · obtain ⟨_, q, _⟩ := k.muAt z
    rw [h] at q; cases q
  · obtain ⟨m, q, _⟩ := e.mu
    exact ⟨m, q⟩
theorem Ext.back (e : Ext W W1) (k : WOk G W1) {a : Addr} (h : W1.H a = none) : W.H a = none := by
  cases q : W.H a with
  | none => rfl
  | some o =>
    by_cases hm : a ∈ W.mu
    · obtain ⟨m, em, _⟩ := e.mu
      have : a ∈ W1.mu := by rw [em]; exact List.mem_append_left _ hm
      obtain ⟨vs, z, _⟩ := k.muAt this
      rw [h] at z; cases z
    · have z := e.st a o q hm
      rw [h] at z; cases z
theorem Ext.trans (a : Ext W W1) (b : Ext W1 W2) (k : WOk G W1) : Ext W W2 := by
  obtain ⟨m1, e1, f1⟩ := a.mu
  obtain ⟨m2, e2, f2⟩ := b.mu
  refine ⟨fun x h => b.fs x (a.fs x h), fun x o h n => b.st x o (a.st x o h n) fun z => ?_, fun x h => ?_, m1 ++ m2, by rw [e2, e1, List.append_assoc], fun x hx => ?_⟩
  · rw [e1] at z
    rcases List.mem_append.mp z with z | z
    · exact n z
    · rw [f1 x z] at h; cases h
  · rcases b.fr x h with h | h
    · exact a.fr x h
    · exact .inr (a.back k h)
  · rcases List.mem_append.mp hx with z | z
    · exact f1 x z
    · exact a.back k (f2 x z)
end

/-- an object laid or changed -/
def Wd.up (W : Wd) (a : Addr) (o : HO) : Wd := { W with H := upd W.H a o }
def Wd.frz (W : Wd) (a : Addr) : Wd := { W with F := fun b => b = a ∨ W.F b }
section
variable {G : Gm} {W W' : Wd} {a : Addr} {o : HO}
theorem Ext.lay (h : W.H a = none) : Ext W (W.up a o) :=
  ⟨fun _ z => z, fun b u e _ => (upd_ne (ne_of_none e h)).trans e, fun _ z => .inl z, [], by simp [Wd.up], fun _ z => nomatch z⟩
theorem Gr.up (n : ¬ W.F a) (h : ∀ xs, W.H a ≠ some (.tup xs)) (h2 : ∀ o u, W.H a ≠ some (.frz o u)) : Gr W (W.up a o) := by
  refine ⟨fun _ z => z, fun b u f e => (upd_ne fun z => n (by rw [← z]; exact f)).trans e, fun b xs e => (upd_ne fun z => h xs (by rw [← z]; exact e)).trans e, fun b q u e => (upd_ne fun z => h2 q u (by rw [← z]; exact e)).trans e, [], by simp [Wd.up]⟩
theorem Gr.frz (a : Addr) : Gr W (W.frz a) := ⟨fun _ z => .inr z, fun _ _ _ e => e, fun _ _ e => e, fun _ _ _ e => e, [], by simp [Wd.frz]⟩
theorem WOk.up (k : WOk G W) (g : Gr W (W.up a o)) (n : a ∉ W.mu) : WOk G (W.up a o) := by
  refine ⟨k.len, k.nd, fun r b h => ?_, fun b f => ?_⟩
  rotate_left
  · show upd W.H a o b ≠ none
    unfold upd
    split
    · exact fun z => nomatch z
    · exact k.fk b f
  obtain ⟨vs, ds, h1, h2, h3, h4⟩ := k.at' r b h
  exact ⟨vs, ds, h1, (upd_ne fun z => n (by rw [← z]; exact List.mem_of_getElem? h)).trans h2, h3.mono g, h4⟩
theorem WOk.lay (k : WOk G W) (h : W.H a = none) : WOk G (W.up a o) := k.up ((Ext.lay h).gr k) (k.notMu h)
theorem WOk.frz (k : WOk G W) (n : a ∉ W.mu) (t : W.H a ≠ none) : WOk G (W.frz a) := by
  refine ⟨k.len, k.nd, fun r b h => ?_, fun b f => ?_⟩
  rotate_left
  · rcases f with f | f
    · rw [f]; exact t
    · exact k.fk b f
  obtain ⟨vs, ds, h1, h2, h3, h4⟩ := k.at' r b h
  refine ⟨vs, ds, h1, h2, h3.mono (Gr.frz a), fun z => ?_⟩
  rcases z with z | z
  · exact n (by rw [← z]; exact List.mem_of_getElem? h)
  · exact h4 z
theorem Ext.frz {Wp : Wd} (e : Ext Wp W) (h : Wp.H a = none) : Ext Wp (W.frz a) := by
  refine ⟨fun b z => .inr (e.fs b z), e.st, fun b z => ?_, e.mu⟩
  rcases z with z | z
  · exact .inr (by rw [z]; exact h)
  · exact e.fr b z
/-- a change at a place that was not there before -/
theorem Ext.up {Wp : Wd} (e : Ext Wp W) (h : Wp.H a = none) : Ext Wp (W.up a o) :=
  ⟨e.fs, fun b u q n => (upd_ne (ne_of_none q h)).trans (e.st b u q n), e.fr, e.mu⟩
end

/-! ### what an expression gives, what a slot holds -/
/-- an owned list: nobody froze it, it was not there at Wp -/
def SlR (G : Gm) (Wp W : Wd) : T → V → Prop
  | .v d, v => RV G W v d
  | .own ds, v => ∃ a vs, v = .ref a ∧ W.H a = some (.lst vs) ∧ RVs G W vs ds ∧ ¬ W.F a ∧ Wp.H a = none ∧ a ∉ W.mu
def TRb (G : Gm) (W : Wd) : T → V → Prop
  | .v d, v => RV G W v d
  | .own ds, v => ∃ a vs, v = .ref a ∧ W.H a = some (.lst vs) ∧ RVs G W vs ds ∧ a ∉ W.mu
section
variable {G : Gm} {Wp Wp' W W' : Wd} {x : T} {v : V}
theorem SlR.b (r : SlR G Wp W x v) : TRb G W x v := by
  cases x with
  | v d => exact r
  | own ds => obtain ⟨a, vs, h1, h2, h3, _, _, h4⟩ := r; exact ⟨a, vs, h1, h2, h3, h4⟩
theorem Ext.muNot (e : Ext W W') {a : Addr} {o : HO} (h : W.H a = some o) (n : a ∉ W.mu) : a ∉ W'.mu := by
  obtain ⟨m, em, f⟩ := e.mu
  rw [em]
  intro z
  rcases List.mem_append.mp z with z | z
  · exact n z
  · rw [f a z] at h; cases h
theorem SlR.mono (r : SlR G Wp W x v) (e : Ext W W') (k : WOk G W) : SlR G Wp W' x v := by
  cases x with
  | v d => exact RV.mono (e.gr k) r
  | own ds =>
    obtain ⟨a, vs, h1, h2, h3, h4, h5, h6⟩ := r
    refine ⟨a, vs, h1, e.st a _ h2 h6, h3.mono (e.gr k), fun z => ?_, h5, e.muNot h2 h6⟩
    rcases e.fr a z with z | z
    · exact h4 z
    · rw [h2] at z; cases z
theorem TRb.mono (r : TRb G W x v) (e : Ext W W') (k : WOk G W) : TRb G W' x v := by
  cases x with
  | v d => exact RV.mono (e.gr k) r
  | own ds =>
    obtain ⟨a, vs, h1, h2, h3, h6⟩ := r
    exact ⟨a, vs, h1, e.st a _ h2 h6, h3.mono (e.gr k), e.muNot h2 h6⟩
theorem SlR.back (r : SlR G Wp' W x v) (e : Ext Wp Wp') (k : WOk G Wp') : SlR G Wp W x v := by
  cases x with
  | v d => exact r
  | own ds =>
    obtain ⟨a, vs, h1, h2, h3, h4, h5, h6⟩ := r
    exact ⟨a, vs, h1, h2, h3, h4, e.back k h5, h6⟩
/-- an owned list is frozen -/
theorem SlR.freeze (r : SlR G Wp W x v) (e : Ext Wp W) (k : WOk G W) : ∃ W', W'.H = W.H ∧ W'.S = W.S ∧ Ext Wp W' ∧ Gr W W' ∧ WOk G W' ∧ RV G W' v x.fz := by
  cases x with
  | v d => exact ⟨W, rfl, rfl, e, Gr.refl W, k, r⟩
  | own ds =>
    obtain ⟨a, vs, h1, h2, h3, h4, h5, h6⟩ := r
    subst h1
    exact ⟨W.frz a, rfl, rfl, e.frz h5, Gr.frz a, k.frz h6 (by rw [h2]; exact fun z => nomatch z), .lst (.inl rfl) h2 (h3.mono (Gr.frz a))⟩
end

/-- the frame's slots -/
structure FrOk (G : Gm) (W0 W : Wd) (σ : Sl) (τ : L2.St) : Prop where
  len : σ.length = τ.length
  at' : ∀ (i : Nat) x, σ[i]? = some (some x) → ∃ v, τ[i]? = some (some v) ∧ SlR G W0 W x v
  sep : ∀ (i j : Nat) xs ys a, i ≠ j → σ[i]? = some (some (.own xs)) → σ[j]? = some (some (.own ys)) → τ[i]? = some (some (.ref a)) → τ[j]? ≠ some (some (.ref a))
section
variable {G : Gm} {W0 W W' : Wd} {σ : Sl} {τ : L2.St}
theorem FrOk.mono (f : FrOk G W0 W σ τ) (e : Ext W W') (k : WOk G W) : FrOk G W0 W' σ τ :=
  ⟨f.len, fun i x h => let ⟨v, h1, h2⟩ := f.at' i x h; ⟨v, h1, h2.mono e k⟩, f.sep⟩
/-- the same heap, more frozen: only if no owned list was frozen -/
theorem FrOk.wipe (f : FrOk G W0 W σ τ) : ∀ vs : List Nat, FrOk G W0 W (wipe σ vs) (L2.wipe τ vs)
  | [] => f
  | v :: vs => by
    have ih := FrOk.wipe f vs
    show FrOk G W0 W ((M3.wipe σ vs).set v none) ((L2.wipe τ vs).set v none)
    have cut : ∀ {i : Nat} {x : T}, ((M3.wipe σ vs).set v none)[i]? = some (some x) → (M3.wipe σ vs)[i]? = some (some x) ∧ v ≠ i := fun {i x} h => by
      by_cases e : v = i
      · subst e
        rw [List.getElem?_set] at h
        split at h
        · split at h <;> cases h
        · contradiction
      · rw [List.getElem?_set_ne e] at h
        exact ⟨h, e⟩
    refine ⟨by rw [List.length_set, List.length_set, ih.len], fun i x h => ?_, fun i j xs ys a hij h1 h2 h3 h4 => ?_⟩
    · obtain ⟨h, e⟩ := cut h
      obtain ⟨u, h1, h2⟩ := ih.at' i x h
      exact ⟨u, by rw [List.getElem?_set_ne e]; exact h1, h2⟩
    · obtain ⟨h1, e1⟩ := cut h1
      obtain ⟨h2, e2⟩ := cut h2
      rw [List.getElem?_set_ne e1] at h3
      rw [List.getElem?_set_ne e2] at h4
      exact ih.sep i j xs ys a hij h1 h2 h3 h4
theorem FrOk.set (f : FrOk G W0 W σ τ) {i : Nat} {x : T} {v : V} (r : SlR G W0 W x v)
    (n : ∀ xs, x = .own xs → ∀ j ys, j ≠ i → σ[j]? = some (some (.own ys)) → τ[j]? ≠ some (some v)) : FrOk G W0 W (σ.set i (some x)) (τ.set i (some v)) := by
  have at1 : ∀ {j : Nat} {y : T}, (σ.set i (some x))[j]? = some (some y) → (j = i ∧ y = x ∧ i < σ.length) ∨ (j ≠ i ∧ σ[j]? = some (some y)) := fun {j y} h => by
    by_cases e : i = j
    · subst e
      rw [List.getElem?_set] at h
      simp only [if_true] at h
      split at h
      · cases h; exact .inl ⟨rfl, rfl, by assumption⟩
      · cases h
    · rw [List.getElem?_set_ne e] at h
      exact .inr ⟨fun z => e z.symm, h⟩
  refine ⟨by rw [List.length_set, List.length_set, f.len], fun j y h => ?_, fun j k xs ys a hjk h1 h2 h3 h4 => ?_⟩
  · rcases at1 h with ⟨rfl, rfl, hl⟩ | ⟨e, h⟩
    · exact ⟨v, by rw [List.getElem?_set_self (by rw [← f.len]; exact hl)], r⟩
    · obtain ⟨u, h1, h2⟩ := f.at' j y h
      exact ⟨u, by rw [List.getElem?_set_ne (Ne.symm e)]; exact h1, h2⟩
  · rcases at1 h1 with ⟨rfl, e1, hl⟩ | ⟨n1, g1⟩
    · rw [List.getElem?_set_self (by rw [← f.len]; exact hl)] at h3
      cases h3
      rcases at1 h2 with ⟨rfl, _, _⟩ | ⟨n2, g2⟩
      · exact hjk rfl
      · rw [List.getElem?_set_ne (Ne.symm n2)] at h4
        exact n xs e1.symm k ys n2 g2 h4
    · rw [List.getElem?_set_ne (Ne.symm n1)] at h3
      rcases at1 h2 with ⟨rfl, e2, hl⟩ | ⟨n2, g2⟩
      · rw [List.getElem?_set_self (by rw [← f.len]; exact hl)] at h4
        cases h4
        exact n ys e2.symm j xs n1 g1 h3
      · rw [List.getElem?_set_ne (Ne.symm n2)] at h4
        exact f.sep j k xs ys a hjk g1 g2 h3 h4
/-- an owned slot's address is not another's -/
theorem FrOk.setV (f : FrOk G W0 W σ τ) {i : Nat} {d : D} {v : V} (r : RV G W v d) : FrOk G W0 W (σ.set i (some (.v d))) (τ.set i (some v)) :=
  f.set (x := .v d) r (fun _ z => nomatch z)
end
theorem RV.inv_tup {G : Gm} {W : Wd} {v : V} {ds : List D} (h : RV G W v (.tup ds)) : ∃ a vs, v = .ref a ∧ SqT G.K W.H a vs ∧ RVs G W vs ds := by
  cases h with | tup h1 h2 => exact ⟨_, _, rfl, h1, h2⟩
theorem RV.inv_lst {G : Gm} {W : Wd} {v : V} {ds : List D} (h : RV G W v (.lst ds)) : ∃ a vs, v = .ref a ∧ W.F a ∧ W.H a = some (.lst vs) ∧ RVs G W vs ds := by
  cases h with | lst h1 h2 h3 => exact ⟨_, _, rfl, h1, h2, h3⟩
theorem RV.inv_int {G : Gm} {W : Wd} {v : V} {i : Int} (h : RV G W v (.int i)) : v = .int i := by cases h; rfl
theorem RV.inv_str {G : Gm} {W : Wd} {v : V} {s : List Nat} (h : RV G W v (.str s)) : v = .str ⟨s.toArray⟩ := by cases h; rfl
theorem RV.inv_bl {G : Gm} {W : Wd} {v : V} {b : Bool} (h : RV G W v (.bl b)) : v = .bl b := by cases h; rfl
theorem RV.inv_non {G : Gm} {W : Wd} {v : V} (h : RV G W v .non) : v = .non := by cases h; rfl
/-- the items of a list or a tuple as they are read -/
theorem TRb.lst {G : Gm} {W : Wd} (k : WOk G W) {x : T} {v : V} {ds : List D} (r : TRb G W x v) (h : x.lst? = some ds) : ∃ a vs, v = .ref a ∧ W.H a = some (.lst vs) ∧ RVs G W vs ds ∧ a ∉ W.mu := by
  cases x with
  | own es => cases h; exact r
  | v d =>
    cases d <;> cases h
    obtain ⟨a, vs, h1, h2, h3, h4⟩ := RV.inv_lst r
    refine ⟨a, vs, h1, h3, h4, fun z => ?_⟩
    obtain ⟨_, _, n⟩ := k.muAt z
    exact n h2
theorem TRb.seq {G : Gm} {W : Wd} (k : WOk G W) {x : T} {v : V} {ds : List D} (r : TRb G W x v) (h : x.seq? = some ds) : ∃ a vs, v = .ref a ∧ (SqL G.K W.H a vs ∨ SqT G.K W.H a vs) ∧ RVs G W vs ds := by
  cases x with
  | own es =>
    cases h
    obtain ⟨a, vs, h1, h2, h3, _⟩ := r
    exact ⟨a, vs, h1, .inl (SqL.of h2), h3⟩
  | v d =>
    cases d <;> cases h
    · obtain ⟨a, vs, h1, h2, h3⟩ := RV.inv_tup r
      exact ⟨a, vs, h1, .inr h2, h3⟩
    · obtain ⟨a, vs, h1, h2, h3, h4⟩ := RV.inv_lst r
      exact ⟨a, vs, h1, .inl (SqL.of h3), h4⟩
end M3
/-! M3d: the operators do what M3a says. -/
namespace M3
open PySem PySem.Spec PyProof.Rows L2

theorem sl_len (s : List Nat) : (⟨s.toArray⟩ : Str).length = s.length := by simp [Str.length]
theorem str_app (s t : List Nat) : (⟨s.toArray⟩ : Str) ++ ⟨t.toArray⟩ = ⟨(s ++ t).toArray⟩ := by
  show Str.mk (s.toArray ++ t.toArray) = _
  rw [List.append_toArray]
theorem str_inj {s t : List Nat} : (⟨s.toArray⟩ : Str) = ⟨t.toArray⟩ ↔ s = t := by
  constructor
  · intro h
    have := congrArg (fun x : Str => x.cps.toList) h
    simpa using this
  · intro h; rw [h]
theorem str_of {x : Str} {l : List Nat} (h : x.cps.toList = l) : x = ⟨l.toArray⟩ := by
  cases x with
  | mk c => subst h; simp
theorem cap_line : cap = sizeLine := by rw [sizeLine_eq]; rfl
section
variable {G : Gm} {X : Cx}

/-- what an operator is to give, from the world W -/
def Gives (G : Gm) (W : Wd) (z : T) (Q : VK) : Prop := ∀ v W', Ext W W' → WOk G W' → W'.S = W.S → SlR G W W' z v → Q v W'.H
theorem Gives.d {W : Wd} {d : D} {Q : VK} {v : V} (g : Gives G W (.v d) Q) (k : WOk G W) (r : RV G W v d) : Q v W.H := g v W (Ext.refl W) k rfl r
theorem Gives.own {W : Wd} {ds : List D} {Q : VK} {vs : List V} (g : Gives G W (.own ds) Q) (k : WOk G W) (r : RVs G W vs ds) : ∀ p, W.H p = none → Q (.ref p) (upd W.H p (.lst vs)) := fun p hp => by
  have e : Ext W (W.up p (.lst vs)) := Ext.lay hp
  exact g (.ref p) (W.up p (.lst vs)) e (k.lay hp) rfl ⟨p, vs, rfl, upd_same, r.mono (e.gr k), fun f => k.fk p f hp, hp, k.notMu hp⟩
theorem Gives.tup {W : Wd} {ds : List D} {Q : VK} {vs : List V} (g : Gives G W (.v (.tup ds)) Q) (k : WOk G W) (r : RVs G W vs ds) : ∀ p, W.H p = none → Q (.ref p) (upd W.H p (.tup vs)) := fun p hp => by
  have e : Ext W (W.up p (.tup vs)) := Ext.lay hp
  exact g (.ref p) (W.up p (.tup vs)) e (k.lay hp) rfl (.tup (SqT.of upd_same) (r.mono (e.gr k)))

def B2.op : B2 → Operator
  | .add => .Add | .sub => .Sub | .mul => .Mult | .fdiv => .FloorDiv | .mod => .Mod | .pow => .Pow
def C2.op : C2 → CmpOp
  | .eq => .Eq | .ne => .NotEq | .lt => .Lt | .le => .LtE | .gt => .Gt | .ge => .GtE | .isIn => .In | .notIn => .NotIn | .isN => .Is | .notN => .IsNot

/-- two values and what is wanted of them -/
def r2 (G : Gm) (f : T → T → Option T) : R2 := fun x y H Q => ∃ W a b z, W.H = H ∧ WOk G W ∧ TRb G W a x ∧ TRb G W b y ∧ f a b = some z ∧ Gives G W z Q

theorem op_mul_sign : OpR X (binaryOp .Mult) (fun x y H Q => ∃ (c : Nat) (j : Int), x = .str ⟨#[c]⟩ ∧ y = .int j ∧ 0 ≤ j ∧ j ≤ 1000 ∧ Q (.str ⟨(List.replicate j.toNat c).toArray⟩) H) := by
  intro pins s σ H x y v u Q I rx ry h
  obtain ⟨c, j, rfl, rfl, h0, h1, q⟩ := h
  obtain ⟨t, rfl⟩ := rx
  obtain ⟨t', rfl⟩ := ry
  refine PySem.SB.mul (PyProof.Rows.mulOk_of 1 1000 (Nat.le_refl 1) h1 (by omega) (by decide) (by decide)) fun t2 k => ⟨.str (Txt.mul ⟨#[c]⟩ j), H, I.tok k, ⟨t2, rfl⟩, ?_⟩
  rw [str_of (PyProof.Rows.mul_one_list c j)]
  exact q
theorem big_or {i j : Int} (h : (big i || big j) = true) : CMul i j := by
  simp only [Bool.or_eq_true, big, Bool.and_eq_true, decide_eq_true_eq] at h
  exact h
theorem opR_add (hK : X.K = G.K) : OpR X (binaryOp .Add) (r2 G addT) := by
  intro pins s τ H x y v u Q I rx ry h
  obtain ⟨W, a, b, z, rfl, k, ra, rb, e, g⟩ := h
  unfold addT at e
  split at e
  · cases e
    cases RV.inv_int ra
    cases RV.inv_int rb
    exact op_add pins s τ W.H _ _ v u Q I rx ry ⟨_, _, rfl, rfl, g.d k (.int _)⟩
  · split at e
    · cases e
      cases RV.inv_str ra
      cases RV.inv_str rb
      refine op_add_str pins s τ W.H _ _ v u Q I rx ry ⟨_, _, rfl, rfl, by rw [sl_len, sl_len, ← cap_line]; assumption, ?_⟩
      rw [str_app]
      exact g.d k (.str _)
    · cases e
  · split at e
    · cases e
      obtain ⟨a1, vs, rfl, h1, h2⟩ := RV.inv_tup ra
      obtain ⟨b1, ws, rfl, h3, h4⟩ := RV.inv_tup rb
      rename_i hz
      refine op_catA pins s τ W.H _ _ v u Q I rx ry ⟨_, _, vs, ws, rfl, rfl, hK ▸ h1, hK ▸ h3, by rw [h2.length, h4.length, ← cap_line]; exact hz, fun e0 => ?_, fun _ e0 => ?_, fun _ _ => ?_⟩
      · subst e0
        cases h2
        exact g.d k (.tup h3 h4)
      · subst e0
        cases h4
        exact g.d k (.tup h1 (by rw [List.append_nil]; exact h2))
      · exact g.tup k (h2.append h4)
    · cases e
  · split at e
    · split at e
      · cases e
        rename_i xs ys hx hy hz
        obtain ⟨a1, vs, rfl, h1, h2, _⟩ := TRb.lst k ra hx
        obtain ⟨b1, ws, rfl, h3, h4, _⟩ := TRb.lst k rb hy
        exact op_cat pins s τ W.H _ _ v u Q I rx ry ⟨_, _, vs, ws, rfl, rfl, h1, h3, by rw [h2.length, h4.length, ← cap_line]; exact hz, g.own k (h2.append h4)⟩
      · cases e
    · cases e
theorem opR_sub : OpR X (binaryOp .Sub) (r2 G subT) := by
  intro pins s τ H x y v u Q I rx ry h
  obtain ⟨W, a, b, z, rfl, k, ra, rb, e, g⟩ := h
  unfold subT at e
  split at e
  · cases e
    cases RV.inv_int ra
    cases RV.inv_int rb
    exact op_sub pins s τ W.H _ _ v u Q I rx ry ⟨_, _, rfl, rfl, g.d k (.int _)⟩
  · cases e
theorem opR_mul : OpR X (binaryOp .Mult) (r2 G mulT) := by
  intro pins s τ H x y v u Q I rx ry h
  obtain ⟨W, a, b, z, rfl, k, ra, rb, e, g⟩ := h
  unfold mulT at e
  split at e
  · split at e
    · cases e
      rename_i hb
      cases RV.inv_int ra
      cases RV.inv_int rb
      exact op_mul pins s τ W.H _ _ v u Q I rx ry ⟨_, _, rfl, rfl, big_or hb, g.d k (.int _)⟩
    · cases e
  · split at e
    · cases e
      rename_i hb
      cases RV.inv_str ra
      cases RV.inv_int rb
      exact op_mul_sign pins s τ W.H _ _ v u Q I rx ry ⟨_, _, rfl, rfl, hb.1, hb.2, g.d k (.str _)⟩
    · cases e
  · cases e
theorem opR_fdiv : OpR X (binaryOp .FloorDiv) (r2 G fdivT) := by
  intro pins s τ H x y v u Q I rx ry h
  obtain ⟨W, a, b, z, rfl, k, ra, rb, e, g⟩ := h
  unfold fdivT at e
  split at e
  · split at e
    · cases e
      rename_i hb
      cases RV.inv_int ra
      cases RV.inv_int rb
      exact op_fdiv pins s τ W.H _ _ v u Q I rx ry ⟨_, _, rfl, rfl, hb, g.d k (.int _)⟩
    · cases e
  · cases e
theorem opR_mod : OpR X (binaryOp .Mod) (r2 G modT) := by
  intro pins s τ H x y v u Q I rx ry h
  obtain ⟨W, a, b, z, rfl, k, ra, rb, e, g⟩ := h
  unfold modT at e
  split at e
  · split at e
    · cases e
      rename_i hb
      cases RV.inv_int ra
      cases RV.inv_int rb
      exact op_mod pins s τ W.H _ _ v u Q I rx ry ⟨_, _, rfl, rfl, hb, g.d k (.int _)⟩
    · cases e
  · cases e
theorem opR_pow : OpR X (binaryOp .Pow) (r2 G powT) := by
  intro pins s τ H x y v u Q I rx ry h
  obtain ⟨W, a, b, z, rfl, k, ra, rb, e, g⟩ := h
  unfold powT at e
  split at e
  · split at e
    · cases e
      rename_i hb
      cases RV.inv_int ra
      cases RV.inv_int rb
      exact op_pow pins s τ W.H _ _ v u Q I rx ry ⟨_, _, rfl, rfl, hb, g.d k (.int _)⟩
    · cases e
  · cases e
theorem opR_B2 (hK : X.K = G.K) : ∀ o : B2, OpR X (binaryOp o.op) (r2 G o.run)
  | .add => opR_add hK
  | .sub => opR_sub
  | .mul => opR_mul
  | .fdiv => opR_fdiv
  | .mod => opR_mod
  | .pow => opR_pow
theorem opR_aug (o : B2) : OpR X (inplaceOp o.op) (r2 G (augT o)) := by
  intro pins s τ H x y v u Q I rx ry hq
  obtain ⟨W, a, b, z, rfl, k, ra, rb, e, g⟩ := hq
  unfold augT at e
  split at e
  · cases e
    cases RV.inv_int ra
    cases RV.inv_int rb
    exact iop_add pins s τ W.H _ _ v u Q I rx ry ⟨_, _, rfl, rfl, g.d k (.int _)⟩
  · cases e
    cases RV.inv_int ra
    cases RV.inv_int rb
    exact iop_sub pins s τ W.H _ _ v u Q I rx ry ⟨_, _, rfl, rfl, g.d k (.int _)⟩
  · cases e

/-! ### comparisons -/
mutual
theorem RV.dp {W : Wd} : ∀ {d : D} {v : V} {p : PyData}, RV G W v d → D.py d = some p → Dp G.K W.H v p
  | .non, _, _, h, e => by cases h; cases e; exact .non
  | .bl b, _, _, h, e => by cases h; cases e; exact .bl b
  | .int i, _, _, h, e => by cases h; cases e; exact .int i
  | .str s, _, _, h, e => by cases h; cases e; exact .str _
  | .tup ds, _, p, h, e => by
    obtain ⟨a, vs, rfl, h1, h2⟩ := RV.inv_tup h
    have e' : (D.pyAll ds).map PyData.tuple = some p := e
    cases q : D.pyAll ds with
    | none => rw [q] at e'; cases e'
    | some ps =>
      rw [q] at e'
      cases e'
      exact .tup h1 (RVs.dp h2 q)
  | .lst ds, _, p, h, e => by
    obtain ⟨a, vs, rfl, _, h1, h2⟩ := RV.inv_lst h
    have e' : (D.pyAll ds).map PyData.list = some p := e
    cases q : D.pyAll ds with
    | none => rw [q] at e'; cases e'
    | some ps =>
      rw [q] at e'
      cases e'
      exact .lst (SqL.of h1) (RVs.dp h2 q)
  | .scr _, _, _, _, e => by cases e
  | .kst _, _, _, _, e => by cases e
  | .fn _, _, _, _, e => by cases e
  | .ty _, _, _, _, e => by cases e
  | .ref _, _, _, _, e => by cases e
theorem RVs.dp {W : Wd} : ∀ {ds : List D} {vs : List V} {ps : List PyData}, RVs G W vs ds → D.pyAll ds = some ps → DpAll G.K W.H vs ps
  | [], _, _, h, e => by cases h; cases e; exact .nil
  | d :: ds, _, ps, h, e => by
    cases h with
    | cons h1 h2 =>
      have e' : (match D.py d, D.pyAll ds with
        | some d, some ds => some (d :: ds)
        | _, _ => none) = some ps := e
      cases q1 : D.py d with
      | none => rw [q1] at e'; cases e'
      | some p =>
        cases q2 : D.pyAll ds with
        | none => rw [q1, q2] at e'; cases e'
        | some pr =>
          rw [q1, q2] at e'
          cases e'
          exact .cons (RV.dp h1 q1) (RVs.dp h2 q2)
end
/-- of a list still owned, as well -/
theorem TRb.dp {W : Wd} {x : T} {v : V} {p : PyData} (r : TRb G W x v) (e : D.py x.fz = some p) : Dp G.K W.H v p := by
  cases x with
  | v d => exact RV.dp r e
  | own ds =>
    obtain ⟨a, vs, rfl, h1, h2, _⟩ := r
    have e' : (D.pyAll ds).map PyData.list = some p := e
    cases q : D.pyAll ds with
    | none => rw [q] at e'; cases e'
    | some ps =>
      rw [q] at e'
      cases e'
      exact .lst (SqL.of h1) (RVs.dp h2 q)
/-- two values and what a test says of them -/
def r2b (G : Gm) (f : T → T → Option Bool) : R2 := fun x y H Q => ∃ W a b z, W.H = H ∧ WOk G W ∧ TRb G W a x ∧ TRb G W b y ∧ f a b = some z ∧ Q (.bl z) W.H
theorem TRb.fz_v {W : Wd} {x : T} {v : V} {d : D} (r : TRb G W x v) (e : x.fz = d) (n : ∀ xs, d ≠ .lst xs) : x = .v d := by
  cases x with
  | v d' => rw [← e]; rfl
  | own xs => exact absurd e.symm (n xs)
theorem eqv_of (hu : X.A.units + 64 < cLine) (hK : X.K = G.K) {pins : List (Addr × Obj)} {s : Shared} {τ : L2.St} {W : Wd} {x y : V} {v u : Value} {Q : VK} {a b : T} {z : Bool} (I : L2.Inv X pins τ W.H s) (rx : L2.RelV x v) (ry : L2.RelV y u)
    (ra : TRb G W a x) (rb : TRb G W b y) (e : eqD a.fz b.fz = some z) :
    (Q (.bl z) W.H → wpAny (model X.prog X.w) X.A (compareOp .Eq v u) (EP X pins τ Q) X.xe s) ∧ (Q (.bl (!z)) W.H → wpAny (model X.prog X.w) X.A (compareOp .NotEq v u) (EP X pins τ Q) X.xe s) := by
  unfold eqD at e
  split at e
  · split at e
    · cases e
      rename_i p q hp hq hs
      exact ⟨fun h => op_eqD hu pins s τ W.H x y v u Q I rx ry ⟨p, q, hK ▸ ra.dp hp, hK ▸ rb.dp hq, hs.1, hs.2, h⟩,
        fun h => op_neD hu pins s τ W.H x y v u Q I rx ry ⟨p, q, hK ▸ ra.dp hp, hK ▸ rb.dp hq, hs.1, hs.2, h⟩⟩
    · cases e
  · cases e
theorem dec_V {α : Type} [DecidableEq α] {f : α → V} (inj : ∀ a b, f a = f b → a = b) (a b : α) : decide (f a = f b) = decide (a = b) := by
  by_cases h : a = b
  · subst h; simp
  · rw [decide_eq_false h, decide_eq_false fun z => h (inj _ _ z)]
theorem decS (s t : List Nat) : decide (V.str ⟨s.toArray⟩ = V.str ⟨t.toArray⟩) = decide (s = t) :=
  dec_V (f := fun s => V.str ⟨s.toArray⟩) (fun a b h => str_inj.mp (V.str.inj h)) s t
theorem eqT_of (hu : X.A.units + 64 < cLine) (hK : X.K = G.K) {pins : List (Addr × Obj)} {s : Shared} {τ : L2.St} {W : Wd} {x y : V} {v u : Value} {Q : VK} {a b : T} {z : Bool} (I : L2.Inv X pins τ W.H s) (rx : L2.RelV x v) (ry : L2.RelV y u)
    (ra : TRb G W a x) (rb : TRb G W b y) (e : eqT a b = some z) :
    (Q (.bl z) W.H → wpAny (model X.prog X.w) X.A (compareOp .Eq v u) (EP X pins τ Q) X.xe s) ∧ (Q (.bl (!z)) W.H → wpAny (model X.prog X.w) X.A (compareOp .NotEq v u) (EP X pins τ Q) X.xe s) := by
  unfold eqT at e
  split at e
  · rename_i i j ha hb
    cases e
    cases TRb.fz_v ra ha fun _ z => nomatch z
    cases TRb.fz_v rb hb fun _ z => nomatch z
    cases RV.inv_int ra
    cases RV.inv_int rb
    refine ⟨fun h => op_eq pins s τ W.H _ _ v u Q I rx ry ⟨rfl, ?_⟩, fun h => op_ne pins s τ W.H _ _ v u Q I rx ry ⟨rfl, ?_⟩⟩ <;>
    · rw [dec_V (f := V.int) fun _ _ => V.int.inj]
      exact h
  · rename_i i j ha hb
    cases e
    cases TRb.fz_v ra ha fun _ z => nomatch z
    cases TRb.fz_v rb hb fun _ z => nomatch z
    cases RV.inv_str ra
    cases RV.inv_str rb
    refine ⟨fun h => op_eq pins s τ W.H _ _ v u Q I rx ry ⟨rfl, ?_⟩, fun h => op_ne pins s τ W.H _ _ v u Q I rx ry ⟨rfl, ?_⟩⟩ <;>
    · rw [decS]
      exact h
  · rename_i i j ha hb
    cases e
    cases TRb.fz_v ra ha fun _ z => nomatch z
    cases TRb.fz_v rb hb fun _ z => nomatch z
    cases RV.inv_bl ra
    cases RV.inv_bl rb
    refine ⟨fun h => op_eq pins s τ W.H _ _ v u Q I rx ry ⟨rfl, ?_⟩, fun h => op_ne pins s τ W.H _ _ v u Q I rx ry ⟨rfl, ?_⟩⟩ <;>
    · rw [dec_V (f := V.bl) fun _ _ => V.bl.inj]
      exact h
  · exact eqv_of hu hK I rx ry ra rb e
theorem opR_eq (hu : X.A.units + 64 < cLine) (hK : X.K = G.K) : OpR X (compareOp .Eq) (r2b G eqT) := by
  intro pins s τ H x y v u Q I rx ry hq
  obtain ⟨W, a, b, z, rfl, k, ra, rb, e, g⟩ := hq
  exact (eqT_of hu hK I rx ry ra rb e).1 g
theorem opR_ne (hu : X.A.units + 64 < cLine) (hK : X.K = G.K) : OpR X (compareOp .NotEq) (r2b G fun a b => (eqT a b).map (!·)) := by
  intro pins s τ H x y v u Q I rx ry hq
  obtain ⟨W, a, b, z, rfl, k, ra, rb, e, g⟩ := hq
  obtain ⟨z', e1, rfl⟩ := Option.map_eq_some_iff.mp e
  exact (eqT_of hu hK I rx ry ra rb e1).2 g
theorem int2_of {f : Int → Int → Bool} {W : Wd} {a b : T} {x y : V} {z : Bool} (ra : TRb G W a x) (rb : TRb G W b y) (e : int2 f a b = some z) : ∃ i j, x = .int i ∧ y = .int j ∧ z = f i j := by
  unfold int2 at e
  split at e
  · cases e
    exact ⟨_, _, RV.inv_int ra, RV.inv_int rb, rfl⟩
  · cases e
theorem opR_lt : OpR X (compareOp .Lt) (r2b G (int2 fun i j => decide (i < j))) := by
  intro pins s τ H x y v u Q I rx ry hq
  obtain ⟨W, a, b, z, rfl, k, ra, rb, e, g⟩ := hq
  obtain ⟨i, j, rfl, rfl, rfl⟩ := int2_of ra rb e
  exact op_lt pins s τ W.H _ _ v u Q I rx ry ⟨i, j, rfl, rfl, g⟩
theorem opR_le : OpR X (compareOp .LtE) (r2b G (int2 fun i j => decide (i ≤ j))) := by
  intro pins s τ H x y v u Q I rx ry hq
  obtain ⟨W, a, b, z, rfl, k, ra, rb, e, g⟩ := hq
  obtain ⟨i, j, rfl, rfl, rfl⟩ := int2_of ra rb e
  exact op_le pins s τ W.H _ _ v u Q I rx ry ⟨i, j, rfl, rfl, g⟩
theorem opR_gt : OpR X (compareOp .Gt) (r2b G (int2 fun i j => decide (j < i))) := by
  intro pins s τ H x y v u Q I rx ry hq
  obtain ⟨W, a, b, z, rfl, k, ra, rb, e, g⟩ := hq
  obtain ⟨i, j, rfl, rfl, rfl⟩ := int2_of ra rb e
  exact op_gt pins s τ W.H _ _ v u Q I rx ry ⟨i, j, rfl, rfl, g⟩
theorem opR_ge : OpR X (compareOp .GtE) (r2b G (int2 fun i j => decide (j ≤ i))) := by
  intro pins s τ H x y v u Q I rx ry hq
  obtain ⟨W, a, b, z, rfl, k, ra, rb, e, g⟩ := hq
  obtain ⟨i, j, rfl, rfl, rfl⟩ := int2_of ra rb e
  exact op_ge pins s τ W.H _ _ v u Q I rx ry ⟨i, j, rfl, rfl, g⟩
theorem isN_of {W : Wd} {a b : T} {x y : V} {z : Bool} (ra : TRb G W a x) (rb : TRb G W b y) (e : isNT a b = some z) : y = .non ∧ z = decide (x = .non) := by
  unfold isNT at e
  split at e
  · refine ⟨RV.inv_non rb, ?_⟩
    split at e
    · cases e
      rw [RV.inv_non ra]; rfl
    · rename_i n
      cases e
      refine (decide_eq_false fun z => ?_).symm
      subst z
      cases a with
      | v d =>
        have ra' : RV G W .non d := ra
        cases ra'
        exact n rfl
      | own ds => obtain ⟨p, vs, q, _⟩ := ra; cases q
  · cases e
theorem opR_isN : OpR X (compareOp .Is) (r2b G isNT) := by
  intro pins s τ H x y v u Q I rx ry hq
  obtain ⟨W, a, b, z, rfl, k, ra, rb, e, g⟩ := hq
  obtain ⟨h1, rfl⟩ := isN_of ra rb e
  exact op_isN pins s τ W.H _ _ v u Q I rx ry ⟨h1, g⟩
theorem opR_notN : OpR X (compareOp .IsNot) (r2b G fun a b => (isNT a b).map (!·)) := by
  intro pins s τ H x y v u Q I rx ry hq
  obtain ⟨W, a, b, z, rfl, k, ra, rb, e, g⟩ := hq
  obtain ⟨z', e1, rfl⟩ := Option.map_eq_some_iff.mp e
  obtain ⟨h1, rfl⟩ := isN_of ra rb e1
  exact op_notN pins s τ W.H _ _ v u Q I rx ry ⟨h1, g⟩
end
end M3
/-! M3e: more operators, built-in calls. -/
namespace M3
open PySem PySem.Spec PyProof.Rows L2
section
variable {G : Gm} {X : Cx}
theorem RV.flat {W : Wd} {v : V} {d : D} (h : RV G W v d) (f : d.flat = true) : flatV v = true := by
  cases h <;> first | rfl | (exact absurd (show false = true from f) Bool.false_ne_true)
theorem RV.feq {W : Wd} {v u : V} {d e : D} (h : RV G W v d) (h' : RV G W u e) (f : d.flat = true) (f' : e.flat = true) : eqV v u = d.feq e := by
  cases h <;> first
    | (exact absurd (show false = true from f) Bool.false_ne_true)
    | (cases h' <;> first
      | (exact absurd (show false = true from f') Bool.false_ne_true)
      | rfl
      | (show ((⟨_⟩ : Str) == ⟨_⟩) = (_ == _)
         rw [Bool.eq_iff_iff, beq_iff_eq, beq_iff_eq]
         exact str_inj))
theorem RVs.flat {W : Wd} : ∀ {vs : List V} {ds : List D}, RVs G W vs ds → ds.all D.flat = true → vs.all flatV = true
  | _, _, .nil, _ => rfl
  | _, _, .cons h t, f => by
    rw [List.all_cons, Bool.and_eq_true] at f ⊢
    exact ⟨h.flat f.1, RVs.flat t f.2⟩
theorem RVs.inV {W : Wd} {x : V} {e : D} (hx : RV G W x e) (fx : e.flat = true) : ∀ {vs : List V} {ds : List D}, RVs G W vs ds → ds.all D.flat = true → inV x vs = ds.any fun y => y.feq e
  | _, _, .nil, _ => rfl
  | _, _, .cons h t, f => by
    rw [List.all_cons, Bool.and_eq_true] at f
    show (eqV _ x || L2.inV x _) = _
    rw [List.any_cons, h.feq hx f.1 fx, RVs.inV hx fx t f.2]
theorem in_of (hK : X.K = G.K) (hw : X.w = G.w) {pins : List (Addr × Obj)} {s : Shared} {τ : L2.St} {W : Wd} {x y : V} {v u : Value} {Q : VK} {a b : T} {z : Bool} (I : L2.Inv X pins τ W.H s) (rx : L2.RelV x v) (ry : L2.RelV y u) (k : WOk G W)
    (ra : TRb G W a x) (rb : TRb G W b y) (e : inD a.fz b = some z) :
    (Q (.bl z) W.H → wpAny (model X.prog X.w) X.A (compareOp .In v u) (EP X pins τ Q) X.xe s) ∧ (Q (.bl (!z)) W.H → wpAny (model X.prog X.w) X.A (compareOp .NotIn v u) (EP X pins τ Q) X.xe s) := by
  unfold inD at e
  split at e
  · rename_i c z' ha
    cases e
    cases TRb.fz_v ra ha fun _ z => nomatch z
    cases RV.inv_str ra
    cases RV.inv_str rb
    exact ⟨fun h => op_in_sign pins s τ W.H _ _ v u Q I rx ry ⟨c, _, rfl, rfl, by simpa using h⟩, fun h => op_notIn_sign pins s τ W.H _ _ v u Q I rx ry ⟨c, _, rfl, rfl, by simpa using h⟩⟩
  · rename_i c z' ha
    cases e
    cases TRb.fz_v ra ha fun _ z => nomatch z
    cases RV.inv_str ra
    have rb' : RV G W y (.kst z') := rb
    cases rb' with
    | kst h =>
      obtain ⟨es, n, kd, hz⟩ := h
      obtain ⟨r, h1, h2⟩ := hz c
      rw [← hK] at kd h1
      rw [← hw] at kd
      rw [← h2]
      exact ⟨fun h => op_in_kd kd pins s τ W.H _ _ v u Q I rx ry ⟨_, r, rfl, rfl, h1, h⟩, fun h => op_notIn_kd kd pins s τ W.H _ _ v u Q I rx ry ⟨_, r, rfl, rfl, h1, h⟩⟩
  · split at e
    · split at e
      · cases e
        rename_i ys hy hf
        rw [Bool.and_eq_true] at hf
        obtain ⟨p, vs, rfl, h1, h2⟩ := rb.seq k hy
        obtain ⟨d, rfl⟩ : ∃ d, a = .v d := by
          cases a with
          | v d => exact ⟨d, rfl⟩
          | own xs => exact absurd (show false = true from hf.1) Bool.false_ne_true
        have hin : inV x vs = ys.any fun y => y.feq d := RVs.inV ra hf.1 h2 hf.2
        refine ⟨fun h => op_in_seq pins s τ W.H _ _ v u Q I rx ry ⟨p, vs, rfl, by rw [hK]; exact h1, RV.flat ra hf.1, h2.flat hf.2, ?_⟩, fun h => op_notIn_seq pins s τ W.H _ _ v u Q I rx ry ⟨p, vs, rfl, by rw [hK]; exact h1, RV.flat ra hf.1, h2.flat hf.2, ?_⟩⟩
        · rw [if_neg Bool.false_ne_true, hin]; exact h
        · rw [if_pos rfl, hin]; exact h
      · cases e
    · cases e
theorem opR_in (hK : X.K = G.K) (hw : X.w = G.w) : OpR X (compareOp .In) (r2b G fun a b => inD a.fz b) := by
  intro pins s τ H x y v u Q I rx ry hq
  obtain ⟨W, a, b, z, rfl, k, ra, rb, e, g⟩ := hq
  exact (in_of hK hw I rx ry k ra rb e).1 g
theorem opR_notIn (hK : X.K = G.K) (hw : X.w = G.w) : OpR X (compareOp .NotIn) (r2b G fun a b => (inD a.fz b).map (!·)) := by
  intro pins s τ H x y v u Q I rx ry hq
  obtain ⟨W, a, b, z, rfl, k, ra, rb, e, g⟩ := hq
  obtain ⟨z', e1, rfl⟩ := Option.map_eq_some_iff.mp e
  exact (in_of hK hw I rx ry k ra rb e1).2 g
theorem opR_C2 (hu : X.A.units + 64 < cLine) (hK : X.K = G.K) (hw : X.w = G.w) : ∀ o : C2, OpR X (compareOp o.op) (r2b G o.run)
  | .eq => opR_eq hu hK
  | .ne => opR_ne hu hK
  | .lt => opR_lt
  | .le => opR_le
  | .gt => opR_gt
  | .ge => opR_ge
  | .isIn => opR_in hK hw
  | .notIn => opR_notIn hK hw
  | .isN => opR_isN
  | .notN => opR_notN

/-! ### truth -/
theorem isEmpty_RVs {W : Wd} {vs : List V} {ds : List D} (h : RVs G W vs ds) : vs.isEmpty = ds.isEmpty := by cases h <;> rfl
theorem tru_of {W : Wd} {x : T} {v : V} {z : Bool} (hK : X.K = G.K) (r : TRb G W x v) (e : x.truth = some z) : TruV X.K v W.H z := by
  unfold T.truth at e
  split at e
  · cases e; cases RV.inv_non r; rfl
  · cases e; cases RV.inv_bl r; rfl
  · cases e; cases RV.inv_int r; rfl
  · split at e
    · rename_i s hs
      cases e; cases RV.inv_str r
      refine ⟨by rw [sl_len, ← cap_line]; exact hs, ?_⟩
      rw [sl_len]
      rw [Bool.eq_iff_iff]
      simp only [bne_iff_ne, ne_eq]
      omega
    · cases e
  · cases e
    obtain ⟨a, vs, rfl, h1, h2⟩ := RV.inv_tup r
    exact .inr (.inl ⟨vs, hK ▸ h1, by rw [isEmpty_RVs h2]⟩)
  · cases e
    obtain ⟨a, vs, rfl, _, h1, h2⟩ := RV.inv_lst r
    exact .inl ⟨vs, SqL.of h1, by rw [isEmpty_RVs h2]⟩
  · cases e
    obtain ⟨a, vs, rfl, h1, h2, _⟩ := r
    exact .inl ⟨vs, SqL.of h1, by rw [isEmpty_RVs h2]⟩
  · cases e

/-! ### subscripts -/
theorem atI_get2 {W : Wd} {vs : List V} {ds : List D} {i : Int} {d : D} (h : RVs G W vs ds) (e : ((ixOf ds.length i).bind fun j => ds[j]?) = some d) : ∃ v, L2.atI vs i = some v ∧ RV G W v d := by
  obtain ⟨j, e1, e2⟩ := Option.bind_eq_some_iff.mp e
  obtain ⟨v, h1, h2⟩ := h.get e2
  exact ⟨v, by unfold L2.atI; rw [h.length, show ixN ds.length i = some j from e1]; exact h1, h2⟩
def r2i (G : Gm) : R2 := fun x y H Q => ∃ W a i z, W.H = H ∧ WOk G W ∧ TRb G W a x ∧ y = .int i ∧ getD a i W.S = some z ∧ Gives G W (.v z) Q
theorem ixR_of (hK : X.K = G.K) : IxR X (r2i G) := by
  intro va sl pins s τ H x y v u Q I rx ry hq hs
  obtain ⟨W, a, i, z, rfl, k, ra, rfl, e, g⟩ := hq
  unfold getD at e
  split at e
  · split at e
    · rename_i cs hz
      obtain ⟨c, e1, rfl⟩ := Option.map_eq_some_iff.mp e
      cases RV.inv_str ra
      refine ix_str va sl pins s τ W.H _ _ v u Q I rx ry ⟨_, i, c, rfl, rfl, by rw [sl_len, ← cap_line]; exact hz, ?_, g.d k (.str [c])⟩ hs
      exact e1
    · cases e
  · rename_i r
    obtain ⟨xs, e1, e2⟩ := Option.bind_eq_some_iff.mp e
    have ra' : RV G W x (.ref r) := ra
    cases ra' with
    | ref hm =>
      obtain ⟨vs, ds, h1, h2, h3, _⟩ := k.at' r _ hm
      rw [e1] at h1; cases h1
      obtain ⟨v0, h4, h5⟩ := atI_get2 h3 e2
      exact ix_list va sl pins s τ W.H _ _ v u Q I rx ry ⟨_, vs, i, v0, rfl, rfl, SqL.of h2, h4, g.d k h5⟩ hs
  · rename_i xs
    obtain ⟨c, e1, rfl⟩ := Option.map_eq_some_iff.mp e
    have ra' : RV G W x (.scr xs) := ra
    cases ra' with
    | scr hm =>
      refine ix_list va sl pins s τ W.H _ _ v u Q I rx ry ⟨_, xs.map V.int, i, .int c, rfl, rfl, hK ▸ hm.sq, ?_, g.d k (.int c)⟩ hs
      obtain ⟨j, h1, h2⟩ := Option.bind_eq_some_iff.mp e1
      unfold L2.atI
      rw [List.length_map, show ixN xs.length i = some j from h1]
      show (xs.map V.int)[j]? = _
      rw [List.getElem?_map, h2]
      rfl
  · obtain ⟨xs, e1, e2⟩ := Option.bind_eq_some_iff.mp e
    obtain ⟨p, vs, rfl, h1, h2⟩ := ra.seq k e1
    obtain ⟨v0, h4, h5⟩ := atI_get2 h2 e2
    rcases h1 with h1 | h1
    · exact ix_list va sl pins s τ W.H _ _ v u Q I rx ry ⟨_, vs, i, v0, rfl, rfl, hK ▸ h1, h4, g.d k h5⟩ hs
    · exact ix_tup va sl pins s τ W.H _ _ v u Q I rx ry ⟨_, vs, i, v0, rfl, rfl, hK ▸ h1, h4, g.d k h5⟩ hs
def rsl (G : Gm) : V → Option Int → Option Int → Hp → VK → Prop := fun x lo hi H Q => ∃ W a z, W.H = H ∧ WOk G W ∧ TRb G W a x ∧ slD a lo hi = some z ∧ Gives G W z Q
theorem RVs.cut {W : Wd} {vs : List V} {ds : List D} (h : RVs G W vs ds) (lo hi : Option Int) : RVs G W (cutV vs lo hi) (cut ds lo hi) := by
  unfold cutV M3.cut
  rw [h.length]
  exact (h.drop _).take _
theorem slR_of (hK : X.K = G.K) : L2.SlR X (rsl G) := by
  intro pins s τ H x v vl vu lo hi sl Q I rx hs pl pu hq
  obtain ⟨W, a, z, rfl, k, ra, e, g⟩ := hq
  unfold slD at e
  split at e
  · split at e
    · rename_i cs hz
      cases e
      cases RV.inv_str ra
      refine sl_str pins s τ W.H _ v vl vu lo hi sl Q I rx hs pl pu ⟨_, rfl, by rw [sl_len, ← cap_line]; exact hz, ?_⟩
      have : cutS ⟨cs.toArray⟩ lo hi = ⟨(cut cs lo hi).toArray⟩ := by
        unfold cutS M3.cut
        rw [sl_len]
      rw [this]
      exact g.d k (.str _)
    · cases e
  · rename_i xs
    cases e
    obtain ⟨p, vs, rfl, h1, h2⟩ := RV.inv_tup ra
    refine sl_tupA pins s τ W.H _ v vl vu lo hi sl Q I rx hs pl pu ⟨p, vs, rfl, hK ▸ h1, fun hw => ?_, fun _ => g.tup k (h2.cut lo hi)⟩
    have : cut xs lo hi = xs := by
      unfold M3.cut
      rw [← h2.length]
      show List.take (HT.sIx vs.length vs.length hi - HT.sIx vs.length 0 lo) (List.drop (HT.sIx vs.length 0 lo) xs) = xs
      rw [hw.1, hw.2, List.drop_zero, Nat.sub_zero, h2.length, List.take_length]
    rw [this] at g
    exact g.d k (.tup h1 h2)
  · rename_i xs
    cases e
    obtain ⟨p, vs, rfl, _, h1, h2⟩ := RV.inv_lst ra
    exact sl_list pins s τ W.H _ v vl vu lo hi sl Q I rx hs pl pu ⟨p, vs, rfl, SqL.of h1, g.own k (h2.cut lo hi)⟩
  · rename_i xs
    cases e
    obtain ⟨p, vs, rfl, h1, h2, _⟩ := ra
    exact sl_list pins s τ W.H _ v vl vu lo hi sl Q I rx hs pl pu ⟨p, vs, rfl, SqL.of h1, g.own k (h2.cut lo hi)⟩
  · cases e
end
end M3
/-! M3f: built-in calls. -/
namespace M3
open PySem PySem.Spec PyProof.Rows L2
section
variable {G : Gm} {X : Cx}
def r1 (G : Gm) (f : T → Option T) : List V → Hp → VK → Prop := fun vs H Q => ∃ W a v z, vs = [v] ∧ W.H = H ∧ WOk G W ∧ TRb G W a v ∧ f a = some z ∧ Gives G W z Q
theorem cR_abs : CallR X (.builtin "abs") (r1 G (P1.run .abs)) := by
  intro pins s τ H vs us Q I rs hq
  obtain ⟨W, a, v, z, rfl, rfl, k, ra, e, g⟩ := hq
  unfold P1.run at e
  split at e <;> first | contradiction | skip
  cases e
  cases RV.inv_int ra
  exact call_abs pins s τ W.H _ us Q I rs ⟨_, rfl, g.d k (.int _)⟩
theorem cR_int : CallR X (.type "int") (r1 G (P1.run .int)) := by
  intro pins s τ H vs us Q I rs hq
  obtain ⟨W, a, v, z, rfl, rfl, k, ra, e, g⟩ := hq
  unfold P1.run at e
  split at e <;> first | contradiction | skip
  · cases e
    cases RV.inv_int ra
    exact call_int1 pins s τ W.H _ us Q I rs (.inl ⟨_, rfl, g.d k (.int _)⟩)
  · cases e
    cases RV.inv_bl ra
    exact call_int1 pins s τ W.H _ us Q I rs (.inr ⟨_, rfl, g.d k (.int _)⟩)
  · split at e
    · obtain ⟨n, e1, rfl⟩ := Option.map_eq_some_iff.mp e
      rename_i hz
      cases RV.inv_str ra
      exact call_int_str pins s τ W.H _ us Q I rs ⟨_, n, rfl, e1, by rw [sl_len]; exact hz, g.d k (.int _)⟩
    · cases e
theorem cR_len (hK : X.K = G.K) : CallR X (.builtin "len") (r1 G (P1.run .len)) := by
  intro pins s τ H vs us Q I rs hq
  obtain ⟨W, a, v, z, rfl, rfl, k, ra, e, g⟩ := hq
  unfold P1.run at e
  split at e <;> first | contradiction | skip
  split at e
  · split at e
    · cases e
      rename_i hz
      cases RV.inv_str ra
      refine call_len_str pins s τ W.H _ us Q I rs ⟨_, rfl, by rw [sl_len, ← cap_line]; exact hz, ?_⟩
      rw [sl_len]
      exact g.d k (.int _)
    · cases e
  · cases e
    rename_i xs
    have ra' : RV G W v (.scr xs) := ra
    cases ra' with
    | scr hm =>
      refine call_len_seq pins s τ W.H _ us Q I rs ⟨_, _, rfl, .inl (hK ▸ hm.sq), ?_⟩
      rw [List.length_map]
      exact g.d k (.int _)
  · obtain ⟨ys, e1, rfl⟩ := Option.map_eq_some_iff.mp e
    obtain ⟨p, ws, rfl, h1, h2⟩ := ra.seq k e1
    refine call_len_seq pins s τ W.H _ us Q I rs ⟨p, ws, rfl, by rw [hK]; exact h1, ?_⟩
    rw [h2.length]
    exact g.d k (.int _)
theorem cR_list (hK : X.K = G.K) : CallR X (.type "list") (r1 G (P1.run .list)) := by
  intro pins s τ H vs us Q I rs hq
  obtain ⟨W, a, v, z, rfl, rfl, k, ra, e, g⟩ := hq
  unfold P1.run at e
  split at e <;> first | contradiction | skip
  split at e
  · cases e
    rename_i xs
    have ra' : RV G W v (.scr xs) := ra
    cases ra' with
    | scr hm => exact call_list_of pins s τ W.H _ us Q I rs ⟨_, _, rfl, .inl (hK ▸ hm.sq), g.own k (RVs.ints xs)⟩
  · obtain ⟨ys, e1, rfl⟩ := Option.map_eq_some_iff.mp e
    obtain ⟨p, ws, rfl, h1, h2⟩ := ra.seq k e1
    exact call_list_of pins s τ W.H _ us Q I rs ⟨p, ws, rfl, by rw [hK]; exact h1, g.own k h2⟩
theorem cR_tuple (hK : X.K = G.K) : CallR X (.type "tuple") (r1 G (P1.run .tuple)) := by
  intro pins s τ H vs us Q I rs hq
  obtain ⟨W, a, v, z, rfl, rfl, k, ra, e, g⟩ := hq
  unfold P1.run at e
  split at e <;> first | contradiction | skip
  obtain ⟨ys, e1, rfl⟩ := Option.map_eq_some_iff.mp e
  obtain ⟨p, ws, rfl, h1, h2⟩ := ra.seq k e1
  rcases h1 with h1 | h1
  · exact call_tuple_of pins s τ W.H _ us Q I rs ⟨p, ws, rfl, .inl ⟨hK ▸ h1, g.tup k h2⟩⟩
  · exact call_tuple_of pins s τ W.H _ us Q I rs ⟨p, ws, rfl, .inr ⟨hK ▸ h1, g.d k (.tup h1 h2)⟩⟩
theorem cR_str : CallR X (.type "str") (r1 G (P1.run .str)) := by
  intro pins s τ H vs us Q I rs hq
  obtain ⟨W, a, v, z, rfl, rfl, k, ra, e, g⟩ := hq
  unfold P1.run at e
  split at e <;> first | contradiction | skip
  split at e
  · cases e
    rename_i i _ hz
    cases RV.inv_int ra
    refine call_str_int pins s τ W.H _ us Q I rs ⟨i, rfl, hz, ?_⟩
    have : Str.ofString (toString i) = ⟨(decI i).toArray⟩ := Str.ofString_eq_toList _
    rw [this]
    exact g.d k (.str _)
  · cases e
mutual
theorem py_noDict : ∀ {d : D} {p : PyData}, D.py d = some p → p.hasDict = false
  | .non, _, e => by cases e; simp only [PyData.hasDict]
  | .bl b, _, e => by cases e; simp only [PyData.hasDict]
  | .int i, _, e => by cases e; simp only [PyData.hasDict]
  | .str s, _, e => by cases e; simp only [PyData.hasDict]
  | .tup ds, _, e => by
    obtain ⟨ps, e1, rfl⟩ := Option.map_eq_some_iff.mp (show (D.pyAll ds).map PyData.tuple = _ from e)
    simp only [PyData.hasDict]
    exact pys_noDict e1
  | .lst ds, _, e => by
    obtain ⟨ps, e1, rfl⟩ := Option.map_eq_some_iff.mp (show (D.pyAll ds).map PyData.list = _ from e)
    simp only [PyData.hasDict]
    exact pys_noDict e1
  | .scr _, _, e => by cases e
  | .kst _, _, e => by cases e
  | .fn _, _, e => by cases e
  | .ty _, _, e => by cases e
  | .ref _, _, e => by cases e
theorem pys_noDict : ∀ {ds : List D} {ps : List PyData}, D.pyAll ds = some ps → PyData.hasDictAll ps = false
  | [], _, e => by cases e; simp only [PyData.hasDictAll]
  | d :: ds, ps, e => by
    have e' : (match D.py d, D.pyAll ds with
      | some d, some ds => some (d :: ds)
      | _, _ => none) = some ps := e
    cases q1 : D.py d with
    | none => rw [q1] at e'; cases e'
    | some p =>
      cases q2 : D.pyAll ds with
      | none => rw [q1, q2] at e'; cases e'
      | some pr =>
        rw [q1, q2] at e'
        cases e'
        simp only [PyData.hasDictAll, py_noDict q1, pys_noDict q2, Bool.or_false]
end
theorem cR_repr (hr : X.A.units + 200 < cLine) (hg : X.A.guards = some []) (hK : X.K = G.K) : CallR X (.builtin "repr") (r1 G (P1.run .repr)) := by
  intro pins s τ H vs us Q I rs hq
  obtain ⟨W, a, v, z, rfl, rfl, k, ra, e, g⟩ := hq
  have e : (reprD a.fz).map (fun s => T.v (.str s)) = some z := e
  obtain ⟨l, e1, rfl⟩ := Option.map_eq_some_iff.mp e
  have main : ∀ p, D.py a.fz = some p → (∃ t, p = .tuple t ∨ p = .list t) → PyData.showable p = true ∧ p.depth ≤ 100 ∧ p.shown.length ≤ cap → p.shown.cps.toList = l → wpAny (model X.prog X.w) X.A (PySem.call (.builtin "repr") us) (EP X pins τ Q) X.xe s := by
    intro p hp hd hs hl
    have hq : Q (.str p.shown) W.H := by
      have := g.d k (.str l)
      rw [str_of hl]
      exact this
    have hz : p.shown.length ≤ sizeLine := by rw [← cap_line]; exact hs.2.2
    obtain ⟨u, rfl, r⟩ := vals1 rs
    have dp := ra.dp hp
    obtain ⟨as, rd⟩ := Dp.reads I p v u (hK ▸ dp) r
    have ref : ∀ {b : Addr}, u = .ref b → wpAny (model X.prog X.w) X.A (PySem.call (.builtin "repr") [u]) (EP X pins τ Q) X.xe s := fun {b} eb => by
      subst eb
      exact PySem.repr_of_reads' rd hs.1 (PyData.noDict_hsm (py_noDict hp)) hg (by have := hs.2.1; omega) (fun _ _ e => e) (fun h' u tk hk => ⟨.str p.shown, W.H, I.kept hk, ⟨u, rfl⟩, hq⟩) hz
    obtain ⟨t, rfl | rfl⟩ := hd
    · cases dp with
      | tup h1 h2 => exact ref r
    · cases dp with
      | lst h1 h2 => exact ref r
  have some_of : (match D.py a.fz with
    | some d => if PyData.showable d = true ∧ d.depth ≤ 100 ∧ d.shown.length ≤ cap then some d.shown.cps.toList else none
    | none => none) = some l → ∃ p, D.py a.fz = some p ∧ (PyData.showable p = true ∧ p.depth ≤ 100 ∧ p.shown.length ≤ cap) ∧ p.shown.cps.toList = l := by
    intro h
    cases q : D.py a.fz with
    | none => rw [q] at h; cases h
    | some p =>
      rw [q] at h
      have h' : (if PyData.showable p = true ∧ p.depth ≤ 100 ∧ p.shown.length ≤ cap then some p.shown.cps.toList else none) = some l := h
      split at h'
      · cases h'
        exact ⟨p, rfl, by assumption, rfl⟩
      · cases h'
  unfold reprD at e1
  split at e1
  · rename_i xs ha
    obtain ⟨p, h1, h2, h3⟩ := some_of e1
    refine main p h1 ?_ h2 h3
    rw [ha] at h1
    obtain ⟨ps, _, rfl⟩ := Option.map_eq_some_iff.mp (show (D.pyAll xs).map PyData.tuple = _ from h1)
    exact ⟨ps, .inl rfl⟩
  · rename_i xs ha
    obtain ⟨p, h1, h2, h3⟩ := some_of e1
    refine main p h1 ?_ h2 h3
    rw [ha] at h1
    obtain ⟨ps, _, rfl⟩ := Option.map_eq_some_iff.mp (show (D.pyAll xs).map PyData.list = _ from h1)
    exact ⟨ps, .inr rfl⟩
  · rename_i xs ha
    obtain ⟨p, h1, h2, h3⟩ := some_of e1
    rw [ha] at h1
    cases h1
    cases TRb.fz_v ra ha fun _ z => nomatch z
    cases RV.inv_str ra
    obtain ⟨u, rfl, t, rfl⟩ := vals1 rs
    have hz := h2.2.2
    simp only [PyData.shown] at h3 hz
    refine PySem.P.repr_of_str ⟨.str _, W.H, I.tok _, ⟨_, rfl⟩, ?_⟩ (by rw [← cap_line]; exact hz)
    rw [str_of h3]
    exact g.d k (.str l)
  · rename_i i ha
    obtain ⟨p, h1, h2, h3⟩ := some_of e1
    rw [ha] at h1
    cases h1
    cases TRb.fz_v ra ha fun _ z => nomatch z
    cases RV.inv_int ra
    obtain ⟨u, rfl, t, rfl⟩ := vals1 rs
    have hz := h2.1
    simp only [PyData.shown, PyData.showable, decide_eq_true_eq] at h3 hz
    refine PySem.P.repr_of_int hz ⟨.str _, W.H, I.tok _, ⟨_, rfl⟩, ?_⟩
    rw [str_of h3]
    exact g.d k (.str l)
  · cases e1
theorem bls_of {W : Wd} : ∀ {ds : List D} {bs : List Bool} {vs : List V}, RVs G W vs ds → bls? ds = some bs → vs = bs.map V.bl
  | [], _, _, h, e => by cases e; cases h; rfl
  | .bl b :: ds, bs, _, h, e => by
    obtain ⟨cs, e1, rfl⟩ := Option.map_eq_some_iff.mp (show (bls? ds).map (b :: ·) = some bs from e)
    cases h with
    | cons h1 h2 =>
      cases RV.inv_bl h1
      rw [bls_of h2 e1]
      rfl
  | .non :: _, _, _, _, e => by cases e
  | .int _ :: _, _, _, _, e => by cases e
  | .str _ :: _, _, _, _, e => by cases e
  | .tup _ :: _, _, _, _, e => by cases e
  | .lst _ :: _, _, _, _, e => by cases e
  | .scr _ :: _, _, _, _, e => by cases e
  | .kst _ :: _, _, _, _, e => by cases e
  | .fn _ :: _, _, _, _, e => by cases e
  | .ty _ :: _, _, _, _, e => by cases e
  | .ref _ :: _, _, _, _, e => by cases e
theorem strs_of {W : Wd} : ∀ {ds : List D} {bs : List (List Nat)} {vs : List V}, RVs G W vs ds → strs? ds = some bs → vs = (bs.map fun s => (⟨s.toArray⟩ : Str)).map V.str
  | [], _, _, h, e => by cases e; cases h; rfl
  | .str b :: ds, bs, _, h, e => by
    obtain ⟨cs, e1, rfl⟩ := Option.map_eq_some_iff.mp (show (strs? ds).map (b :: ·) = some bs from e)
    cases h with
    | cons h1 h2 =>
      cases RV.inv_str h1
      rw [strs_of h2 e1]
      rfl
  | .non :: _, _, _, _, e => by cases e
  | .int _ :: _, _, _, _, e => by cases e
  | .bl _ :: _, _, _, _, e => by cases e
  | .tup _ :: _, _, _, _, e => by cases e
  | .lst _ :: _, _, _, _, e => by cases e
  | .scr _ :: _, _, _, _, e => by cases e
  | .kst _ :: _, _, _, _, e => by cases e
  | .fn _ :: _, _, _, _, e => by cases e
  | .ty _ :: _, _, _, _, e => by cases e
  | .ref _ :: _, _, _, _, e => by cases e
theorem cR_all (hc : X.calm = true) : CallR X (.builtin "all") (r1 G (P1.run .all)) := by
  intro pins s τ H vs us Q I rs hq
  obtain ⟨W, a, v, z, rfl, rfl, k, ra, e, g⟩ := hq
  have e : (a.lst?.bind bls?).map (fun bs => T.v (.bl (bs.all id))) = some z := e
  obtain ⟨bs, e1, rfl⟩ := Option.map_eq_some_iff.mp e
  obtain ⟨ds, e2, e3⟩ := Option.bind_eq_some_iff.mp e1
  obtain ⟨p, ws, rfl, h1, h2, _⟩ := ra.lst k e2
  cases bls_of h2 e3
  exact L2.cr_all hc pins s τ W.H _ us Q I rs ⟨p, bs, rfl, SqL.of h1, g.d k (.bl _)⟩
/-- s.join(x) -/
def rj (G : Gm) : V → List V → Hp → VK → Prop := fun x vs H Q => ∃ W sd a v z, vs = [v] ∧ W.H = H ∧ WOk G W ∧ RV G W x sd ∧ TRb G W a v ∧ joinD sd a = some z ∧ Gives G W (.v z) Q
theorem joinN_eq (s : List Nat) : ∀ ys : List (List Nat), joinN s ys = TL.joinL s ys
  | [] => rfl
  | [_] => rfl
  | x :: y :: r => by
    show x ++ (s ++ joinN s (y :: r)) = x ++ (s ++ TL.joinL s (y :: r))
    rw [joinN_eq s (y :: r)]
theorem mtR_join (hK : X.K = G.K) : MtR X "str.join" (rj G) := by
  intro pins s τ H x vs v us Q I rx rs hq
  obtain ⟨W, sd, a, v', z, rfl, rfl, k, rs', ra, e, g⟩ := hq
  unfold joinD at e
  split at e
  · split at e
    · cases e
      rename_i sp ys hy hz
      cases RV.inv_str rs'
      obtain ⟨ds, e2, e3⟩ := Option.bind_eq_some_iff.mp hy
      obtain ⟨p, ws, rfl, h1, h2⟩ := ra.seq k e2
      cases strs_of h2 e3
      refine mt_join pins s τ W.H _ _ v us Q I rx rs ⟨_, p, _, rfl, rfl, by rw [hK]; exact h1, ?_, ?_⟩
      · rw [List.map_map, List.length_map, sl_len]
        have : ((fun y : Str => y.length) ∘ fun s : List Nat => (⟨s.toArray⟩ : Str)) = fun s => s.length := funext fun s => sl_len s
        rw [this]
        exact hz
      · have : Txt.join ⟨sp.toArray⟩ (ys.map fun s => (⟨s.toArray⟩ : Str)) = ⟨(joinN sp ys).toArray⟩ := by
          rw [TL.join_eq]
          refine str_of ?_
          have := TL.tl_join ⟨sp.toArray⟩ (ys.map fun s => (⟨s.toArray⟩ : Str))
          rw [List.map_map] at this
          have e0 : (TL.tl ∘ fun s : List Nat => (⟨s.toArray⟩ : Str)) = id := funext fun s => TL.tl_mk s
          rw [e0, List.map_id] at this
          rw [joinN_eq]
          exact this
        rw [this]
        exact g.d k (.str _)
    · cases e
  · cases e
end
end M3
/-! M3g: the readings of expressions. -/
namespace M3
open PySem PySem.Spec PyProof.Rows L2

/-- where an expression stands -/
structure XOk (G : Gm) (X : Cx) (N : List Str) (sc : Scope) (k : Nat) : Prop where
  prog : X.prog = G.prog
  w : X.w = G.w
  K : X.K = G.K
  mg : X.mg = G.mg
  base : X.base = G.base
  N : X.N = N
  sc : X.env.scope = sc
  calm : X.calm = true
  nd : X.N.Nodup
  rm : Room k X.A
  gd : X.A.guards = some []
  xe : X.xe = fun _ _ => False
theorem XOk.hu {G : Gm} {X : Cx} {N : List Str} {sc : Scope} {k : Nat} (x : XOk G X N sc k) : X.A.units + 200 < cLine := by have := x.rm.un; omega

section
variable (G : Gm)
def tE (r : RE) : TE := fun τ H Q => ∃ W0 W σ x S', W.H = H ∧ WOk G W ∧ FrOk G W0 W σ τ ∧ r σ W.S = some (x, S') ∧ ∀ v W', Ext W W' → WOk G W' → W'.S = S' → SlR G W W' x v → Q v W'.H
def tB (r : RE) : TE := fun τ H Q => ∃ W0 W σ x S', W.H = H ∧ WOk G W ∧ FrOk G W0 W σ τ ∧ r σ W.S = some (x, S') ∧ ∀ v W', Ext W W' → WOk G W' → W'.S = S' → TRb G W' x v → Q v W'.H
/-- what is handed back: an owned name may go -/
def tR (r : RE) : TE := fun τ H Q => ∃ W0 W σ x S', W.H = H ∧ WOk G W ∧ FrOk G W0 W σ τ ∧ Ext W0 W ∧ r σ W.S = some (x, S') ∧ ∀ v W', Ext W W' → WOk G W' → W'.S = S' → SlR G W0 W' x v → Q v W'.H
def tT (r : Sl → Sto → Option (Bool × Sto)) : TT := fun τ H Q => ∃ W0 W σ x S', W.H = H ∧ WOk G W ∧ FrOk G W0 W σ τ ∧ r σ W.S = some (x, S') ∧ ∀ W', Ext W W' → WOk G W' → W'.S = S' → Q x W'.H
def tA (r : Sl → Sto → Option (List T × Sto)) : TA := fun τ H Q => ∃ W0 W σ xs S', W.H = H ∧ WOk G W ∧ FrOk G W0 W σ τ ∧ r σ W.S = some (xs, S') ∧ ∀ vs W', Ext W W' → WOk G W' → W'.S = S' → RVs G W' vs (fzs xs) → Q vs W'.H
/-- an iterator that gives these data -/
def JOk (W : Wd) (J : It) (ds : List D) : Prop := ∀ W', Gr W W' → WOk G W' → ∀ i : Nat,
  (∀ d, ds[i]? = some d → J.go i W'.H ∧ ∀ x H', J.yld i W'.H x H' → ∃ W2, W2.H = H' ∧ Ext W' W2 ∧ WOk G W2 ∧ W2.S = W'.S ∧ RV G W2 x d) ∧ (ds.length ≤ i → J.stop i W'.H)
def tI (r : Sl → Sto → Option (List D × Sto)) : TI := fun τ H R => ∃ W0 W σ ds S', W.H = H ∧ WOk G W ∧ FrOk G W0 W σ τ ∧ r σ W.S = some (ds, S') ∧ ∀ J W', Ext W W' → WOk G W' → W'.S = S' → JOk G W' J ds → R J W'.H
end
section
variable {G : Gm} {X : Cx}
theorem _root_.L2.PE.imp {e : Expr} {t t' : TE} (h : PE X e t) (i : ∀ σ H Q, t' σ H Q → t σ H Q) : PE X e t' := ⟨fun pins s σ H Q I q => h.run pins s σ H Q I (i σ H Q q)⟩
theorem _root_.L2.PT.imp {e : Expr} {t t' : TT} (h : PT X e t) (i : ∀ σ H Q, t' σ H Q → t σ H Q) : PT X e t' := ⟨fun pins s σ H Q I q => h.run pins s σ H Q I (i σ H Q q)⟩
theorem _root_.L2.PW.imp {e : Expr} {t t' : TT} (h : PW X e t) (i : ∀ σ H Q, t' σ H Q → t σ H Q) : PW X e t' := ⟨fun wh pins s σ H Q I q => h.run wh pins s σ H Q I (i σ H Q q)⟩
theorem _root_.L2.PA.imp {e : List Expr} {t t' : TA} (h : PA X e t) (i : ∀ σ H Q, t' σ H Q → t σ H Q) : PA X e t' := ⟨fun pos pins s σ H Q I q => h.run pos pins s σ H Q I (i σ H Q q)⟩
theorem _root_.L2.PI.imp {tg e : Expr} {t t' : TI} (h : PI X tg e t) (i : ∀ σ H Q, t' σ H Q → t σ H Q) : PI X tg e t' := ⟨fun pins s σ H Q I q => h.run pins s σ H Q I (i σ H Q q)⟩
theorem _root_.L2.PS.imp {e : Stmt} {t t' : TS} (h : PS X e t) (i : ∀ D σ H, t' D σ H → t D σ H) : PS X e t' := ⟨fun pins s σ H Q I q => h.run pins s σ H Q I (i Q σ H q)⟩
theorem _root_.L2.PSs.imp {e : List Stmt} {t t' : TS} (h : PSs X e t) (i : ∀ D σ H, t' D σ H → t D σ H) : PSs X e t' := ⟨fun pins s σ H Q I q => h.run pins s σ H Q I (i Q σ H q)⟩

/-- an expression and its readings -/
structure SOk (G : Gm) (X : Cx) (ex : Expr) (m : Sm) : Prop where
  b : PE X ex (tB G m.b)
  r : PE X ex (tR G m.b)
  e : PE X ex (tE G m.e)
  t : PT X ex (tT G m.t)
  i : ∀ tg, PI X tg ex (tI G m.i)
  ns : ∀ es env, starEach (ex :: es) env = (false, eval ex env) :: starEach es env
  no : m.isNo = false
theorem tE_b {r : RE} {τ : L2.St} {H : Hp} {Q : VK} (h : tB G r τ H Q) : tE G r τ H Q := by
  obtain ⟨W0, W, σ, x, S', h1, h2, h3, h4, h5⟩ := h
  exact ⟨W0, W, σ, x, S', h1, h2, h3, h4, fun v W' a b c d => h5 v W' a b c d.b⟩
theorem _root_.L2.PE.toB {e : Expr} {r : RE} (h : PE X e (tE G r)) : PE X e (tB G r) := h.imp fun _ _ _ => tE_b
theorem _root_.L2.PE.toR {e : Expr} {r : RE} (h : PE X e (tE G r)) : PE X e (tR G r) := h.imp fun _ _ _ hq => by
  obtain ⟨W0, W, σ, x, S', h1, h2, h3, x0, h4, h5⟩ := hq
  exact ⟨W0, W, σ, x, S', h1, h2, h3, h4, fun v W' a b c d => h5 v W' a b c (d.back x0 h2)⟩
theorem truth_of {N : List Str} {sc : Scope} {k : Nat} (x : XOk G X N sc k) {e : Expr} {r : RE} (h : PE X e (tB G r)) (he : ∀ whole, isTrue e X.env whole = (do let v ← whole; standAt e.pos; holding [v] (truthy v))) : PT X e (tT G (truthOf r)) := by
  refine (pt_truth h he).imp fun τ H Q hq => ?_
  obtain ⟨W0, W, σ, z, S', h1, h2, h3, h4, h5⟩ := hq
  unfold truthOf at h4
  split at h4
  · rename_i y S1 hr
    obtain ⟨c, e1, e2⟩ := Option.map_eq_some_iff.mp h4
    cases e2
    exact ⟨W0, W, σ, y, _, h1, h2, h3, hr, fun v W' a b c d => ⟨z, tru_of x.K d e1, h5 W' a b c⟩⟩
  · cases h4
theorem jok_list {W : Wd} {a : Addr} {vs : List V} {ds : List D} (h : ∀ W', Gr W W' → SqL X.K W'.H a vs) (r : RVs G W vs ds) : JOk G W (Itl X.K a) ds := by
  intro W' g k i
  have hs := h W' g
  have r' := r.mono g
  refine ⟨fun d e => ?_, fun hl => ⟨vs, hs, by rw [r.length]; exact hl⟩⟩
  obtain ⟨v, e1, e2⟩ := r'.get e
  refine ⟨⟨vs, v, hs, e1⟩, fun x H' hy => ?_⟩
  obtain ⟨rfl, hy⟩ := hy
  have := hy vs hs
  rw [e1] at this; cases this
  exact ⟨W', rfl, Ext.refl W', k, rfl, e2⟩
theorem jok_tup {W : Wd} {a : Addr} {vs : List V} {ds : List D} (h : ∀ W', Gr W W' → SqT X.K W'.H a vs) (r : RVs G W vs ds) : JOk G W (Itt X.K a) ds := by
  intro W' g k i
  have hs := h W' g
  have r' := r.mono g
  refine ⟨fun d e => ?_, fun hl => ⟨vs, hs, by rw [r.length]; exact hl⟩⟩
  obtain ⟨v, e1, e2⟩ := r'.get e
  refine ⟨⟨vs, v, hs, e1⟩, fun x H' hy => ?_⟩
  obtain ⟨rfl, hy⟩ := hy
  have := hy vs hs
  rw [e1] at this; cases this
  exact ⟨W', rfl, Ext.refl W', k, rfl, e2⟩
theorem items_of {N : List Str} {sc : Scope} {k : Nat} (x : XOk G X N sc k) {e : Expr} {r : RE} (h : PE X e (tE G r)) (tg : Expr) : PI X tg e (tI G (itemsR r)) := by
  refine ⟨fun pins s τ H R I hq => ?_⟩
  obtain ⟨W0, W, σ, ds, S', rfl, h2, h3, h4, h5⟩ := hq
  unfold itemsR at h4
  split at h4
  rotate_left
  · cases h4
  rename_i y S1 hr
  obtain ⟨c, e1, e2⟩ := Option.map_eq_some_iff.mp h4
  cases e2
  unfold itemsOf at e1
  split at e1
  · cases e1
    rename_i xs
    refine (pi_list h).run pins s τ W.H R I ⟨W0, W, σ, _, _, rfl, h2, h3, hr, fun v W' a b c d => ?_⟩
    have d' : RV G W' v (.scr xs) := d
    cases d' with
    | scr hm => exact ⟨_, rfl, ⟨_, x.K ▸ hm.sq⟩, h5 _ W' a b c (jok_list (fun W2 g => by
        have : RV G W2 (.ref _) (.scr xs) := (RV.scr hm).mono g
        cases this with
        | scr hm2 => exact x.K ▸ hm2.sq) (RVs.ints xs))⟩
  · cases y with
    | own xs =>
      cases e1
      refine (pi_list h).run pins s τ W.H R I ⟨W0, W, σ, _, _, rfl, h2, h3, hr, fun v W' a b c d => ?_⟩
      obtain ⟨W2, eH, eS, ex, gr, ok, rv⟩ := d.freeze a b
      obtain ⟨p, vs, rfl, hf, hp, hvs⟩ := RV.inv_lst rv
      rw [← eH]
      exact ⟨p, rfl, ⟨vs, SqL.of hp⟩, h5 _ W2 ex ok (eS.trans c) (jok_list (fun W3 g => SqL.of (g.st _ _ hf hp)) hvs)⟩
    | v d0 =>
      cases d0 <;> cases e1
      · refine (pi_tup h).run pins s τ W.H R I ⟨W0, W, σ, _, _, rfl, h2, h3, hr, fun v W' a b c d => ?_⟩
        obtain ⟨p, vs, rfl, hp, hvs⟩ := RV.inv_tup d
        refine ⟨p, rfl, ⟨vs, x.K ▸ hp⟩, h5 _ W' a b c (jok_tup (fun W2 g => ?_) hvs)⟩
        rw [x.K]
        rcases hp with (hp | ⟨o, hp⟩) | hp
        · exact .inl (.inl (g.tp _ _ hp))
        · exact .inl (.inr ⟨o, g.fz _ _ _ hp⟩)
        · exact .inr hp
      · refine (pi_list h).run pins s τ W.H R I ⟨W0, W, σ, _, _, rfl, h2, h3, hr, fun v W' a b c d => ?_⟩
        obtain ⟨p, vs, rfl, hf, hp, hvs⟩ := RV.inv_lst d
        exact ⟨p, rfl, ⟨vs, SqL.of hp⟩, h5 _ W' a b c (jok_list (fun W3 g => SqL.of (g.st _ _ hf hp)) hvs)⟩
/-- the plain case -/
theorem SOk.of {N : List Str} {sc : Scope} {k : Nat} (x : XOk G X N sc k) {e : Expr} {r : RE} (h : PE X e (tE G r)) (he : ∀ whole, isTrue e X.env whole = (do let v ← whole; standAt e.pos; holding [v] (truthy v)))
    (ns : ∀ es env, starEach (e :: es) env = (false, eval e env) :: starEach es env) : SOk G X e (Sm.of r) :=
  ⟨h.toB, h.toR, h, truth_of x h.toB he, items_of x h, ns, rfl⟩

/-! ### constants and names -/
theorem se_const {e : Expr} {v : V} {d : D} (h : PE X e (tC v)) (r : ∀ W, RV G W v d) : PE X e (tE G fun _ S => some (.v d, S)) := by
  refine h.imp fun τ H Q hq => ?_
  obtain ⟨W0, W, σ, x, S', rfl, h2, h3, h4, h5⟩ := hq
  cases h4
  exact h5 v W (Ext.refl W) h2 rfl (r W)
theorem se_varE {e : Expr} {i : Nat} (h : PE X e (tVar i)) : PE X e (tE G (varE i)) := by
  refine h.imp fun τ H Q hq => ?_
  obtain ⟨W0, W, σ, x, S', rfl, h2, h3, h4, h5⟩ := hq
  unfold varE at h4
  split at h4
  · cases h4
    rename_i d hd
    obtain ⟨v, e1, e2⟩ := h3.at' i _ hd
    exact ⟨v, e1, h5 v W (Ext.refl W) h2 rfl e2⟩
  · cases h4
theorem se_varB {e : Expr} {i : Nat} (h : PE X e (tVar i)) : PE X e (tB G (varB i)) := by
  refine h.imp fun τ H Q hq => ?_
  obtain ⟨W0, W, σ, x, S', rfl, h2, h3, h4, h5⟩ := hq
  unfold varB at h4
  split at h4
  · cases h4
    rename_i hd
    obtain ⟨v, e1, e2⟩ := h3.at' i _ hd
    exact ⟨v, e1, h5 v W (Ext.refl W) h2 rfl e2.b⟩
  · cases h4

theorem se_varR {e : Expr} {i : Nat} (h : PE X e (tVar i)) : PE X e (tR G (varB i)) := by
  refine h.imp fun τ H Q hq => ?_
  obtain ⟨W0, W, σ, x, S', rfl, h2, h3, x0, h4, h5⟩ := hq
  unfold varB at h4
  split at h4
  · cases h4
    rename_i hd
    obtain ⟨v, e1, e2⟩ := h3.at' i _ hd
    exact ⟨v, e1, h5 v W (Ext.refl W) h2 rfl e2⟩
  · cases h4

/-! ### operators -/
theorem Gives.ext {W Wp : Wd} {z : T} {S' : Sto} {Q : VK} (e : Ext Wp W) (k : WOk G W) (hS : W.S = S') (h : ∀ v W', Ext Wp W' → WOk G W' → W'.S = S' → SlR G Wp W' z v → Q v W'.H) : Gives G W z Q := fun v W' e' k' s' r =>
  h v W' (e.trans e' k) k' (s'.trans hS) (r.back e k)
theorem se_bin2 {ea eb e : Expr} {ra rb : RE} {f : T → T → Option T} {R : R2} (ha : PE X ea (tB G ra)) (hb : PE X eb (tB G rb)) (mk : ∀ {ta tb : TE}, PE X ea ta → PE X eb tb → PE X e (tOp R ta tb)) (hR : ∀ x y H Q, r2 G f x y H Q → R x y H Q) :
    PE X e (tE G (bind2 ra rb (lift2 f))) := by
  refine (mk ha hb).imp fun τ H Q hq => ?_
  obtain ⟨W0, W, σ, z, S', rfl, h2, h3, h4, h5⟩ := hq
  unfold bind2 at h4
  split at h4
  rotate_left
  · cases h4
  rename_i x S1 e1
  split at h4
  rotate_left
  · cases h4
  rename_i y S2 e2
  obtain ⟨z', e3, e4⟩ := Option.map_eq_some_iff.mp h4
  cases e4
  refine ⟨W0, W, σ, x, S1, rfl, h2, h3, e1, fun v W1 x1 k1 s1 r1 => ?_⟩
  refine ⟨W0, W1, σ, y, _, rfl, k1, h3.mono x1 h2, by rw [s1]; exact e2, fun u W2 x2 k2 s2 r2' => hR _ _ _ _ ?_⟩
  exact ⟨W2, x, y, z, rfl, k2, r1.mono x2 k1, r2', e3, Gives.ext (x1.trans x2 k1) k2 s2 h5⟩
theorem se_cmp2 {ea eb e : Expr} {ra rb : RE} {f : T → T → Option Bool} {R : R2} (ha : PE X ea (tB G ra)) (hb : PE X eb (tB G rb)) (mk : ∀ {ta tb : TE}, PE X ea ta → PE X eb tb → PE X e (tOp R ta tb)) (hR : ∀ x y H Q, r2b G f x y H Q → R x y H Q) :
    PE X e (tE G (bind2 ra rb (lift2b f))) := by
  refine (mk ha hb).imp fun τ H Q hq => ?_
  obtain ⟨W0, W, σ, z, S', rfl, h2, h3, h4, h5⟩ := hq
  unfold bind2 at h4
  split at h4
  rotate_left
  · cases h4
  rename_i x S1 e1
  split at h4
  rotate_left
  · cases h4
  rename_i y S2 e2
  obtain ⟨z', e3, e4⟩ := Option.map_eq_some_iff.mp h4
  cases e4
  refine ⟨W0, W, σ, x, S1, rfl, h2, h3, e1, fun v W1 x1 k1 s1 r1 => ?_⟩
  refine ⟨W0, W1, σ, y, _, rfl, k1, h3.mono x1 h2, by rw [s1]; exact e2, fun u W2 x2 k2 s2 r2' => hR _ _ _ _ ?_⟩
  exact ⟨W2, x, y, z', rfl, k2, r1.mono x2 k1, r2', e3, h5 _ W2 (x1.trans x2 k1) k2 s2 (.bl z')⟩
theorem se_cmp2T {ea eb e : Expr} {ra rb : RE} {f : T → T → Option Bool} {R : R2} (ha : PE X ea (tB G ra)) (hb : PE X eb (tB G rb)) (mk : ∀ {ta tb : TE}, PE X ea ta → PE X eb tb → PT X e (tTest (tOp R ta tb))) (hR : ∀ x y H Q, r2b G f x y H Q → R x y H Q) :
    PT X e (tT G (asTest (bind2 ra rb (lift2b f)))) := by
  refine (mk ha hb).imp fun τ H Q hq => ?_
  obtain ⟨W0, W, σ, z, S', rfl, h2, h3, h4, h5⟩ := hq
  unfold asTest at h4
  split at h4
  rotate_left
  · cases h4
  rename_i xx SS h4'
  unfold bind2 at h4'
  split at h4'
  rotate_left
  · cases h4'
  rename_i x S1 e1
  split at h4'
  rotate_left
  · cases h4'
  rename_i y S2 e2
  obtain ⟨z', e3, e4⟩ := Option.map_eq_some_iff.mp h4'
  cases e4
  cases h4
  refine ⟨W0, W, σ, x, S1, rfl, h2, h3, e1, fun v W1 x1 k1 s1 r1 => ?_⟩
  refine ⟨W0, W1, σ, y, _, rfl, k1, h3.mono x1 h2, by rw [s1]; exact e2, fun u W2 x2 k2 s2 r2' => hR _ _ _ _ ?_⟩
  exact ⟨W2, x, y, z, rfl, k2, r1.mono x2 k1, r2', e3, z, rfl, h5 W2 (x1.trans x2 k1) k2 s2⟩
end
end M3
/-! M3h: calls. -/
namespace M3
open PySem PySem.Spec PyProof.Rows L2

/-- what a def promises at level k: what the small interpreter gives -/
def spD (G : Gm) (P : Pg) (k f : Nat) (vs : List V) (H : Hp) (Q : VK) : Prop :=
  ∃ W ds x S', W.H = H ∧ WOk G W ∧ RVs G W vs ds ∧ M3.call P k f ds W.S = some (x, S') ∧ ∀ v W', Ext W W' → WOk G W' → W'.S = S' → SlR G W W' x v → Q v W'.H
structure Rm (k : Nat) (A : Around) : Prop where
  rm : Room k A
  gd : A.guards = some []
structure FnRun (prog : Program) (w : World) (K : PySem.W.Frag) (mg : Str → Option Value) (base : Heap) (G : Gm) (P : Pg) (k f : Nat) (a : Addr) (fd : FuncData) (ps : List Str) : Prop where
  len : ∀ vs H Q, spD G P k f vs H Q → vs.length = ps.length
  run : ∀ (A : Around) (outer : List Env) (s : Shared) (H : Hp) (args : Args) (us : List Value) (vs : List V) (Q : VK), Rm k A → Env0 prog w K mg base A outer s H → BindsTo s fd args (ps.zip us) → Vals vs us → spD G P k f vs H Q →
    codeAny (model prog w) A (.call (.ref a) args) (CR CX0 outer prog w H s Q E0) s
structure FnAt (G : Gm) (P : Pg) (k f : Nat) (x : Str) (a : Addr) : Prop where
  fa : G.fa f = some a
  mg : G.mg x = some (.ref a)
  kp : PySem.W.keepIn G.K (.ref a) = true
  run : ∃ fd ps, Binds G.K fd ps [] ∧ FnRun G.prog G.w G.K G.mg G.base G P k f a fd ps
/-- all defs of the table -/
structure Fns (G : Gm) (P : Pg) (fn : List Str) (k : Nat) : Prop where
  at' : ∀ (f : Nat) (x : Str), fn[f]? = some x → ∃ a, FnAt G P k f x a
  of : ∀ (f : Nat) (a : Addr), G.fa f = some a → ∃ x, fn[f]? = some x ∧ FnAt G P k f x a
section
variable {G : Gm} {X : Cx} {N : List Str} {sc : Scope} {k : Nat} {P : Pg}
theorem run_call {f : Nat} {x : Str} {a : Addr} (xo : XOk G X N sc k) (F : FnAt G P k f x a) {pins : List (Addr × Obj)} {τ : L2.St} {H : Hp} {s : Shared} {Q : VK} {us : List Value} {vs : List V} (I : L2.Inv X pins τ H s) (r : Vals vs us) (h : spD G P k f vs H Q) :
    wpAny (model X.prog X.w) X.A (PySem.call (.ref a) us) (EP X pins τ Q) X.xe s := by
  obtain ⟨fd, ps, hb, R⟩ := F.run
  rw [← xo.K] at hb
  rw [← xo.prog, ← xo.w, ← xo.K, ← xo.mg, ← xo.base] at R
  have hl : us.length = ps.length := r.length.symm.trans (R.len _ _ _ h)
  have hbs := hb s us I.kIn (by rw [List.append_nil]; exact hl)
  rw [List.append_nil] at hbs
  refine wpAny_call (codeAny_mono (R.run X.A X.stack s H ⟨us, []⟩ us vs Q ⟨xo.rm, xo.gd⟩ I.env0 hbs r h) fun z s' hq => ?_)
  match z, hq with
  | .error e, hq => exact False.elim hq
  | .ok (.ret u), hq => exact I.after hq
  | .ok .next, hq => exact False.elim hq
  | .ok .brk, hq => exact False.elim hq
  | .ok .cont, hq => exact False.elim hq
theorem spD_of {f : Nat} {W : Wd} {ds : List D} {x : T} {S' : Sto} {vs : List V} {Q : VK} (hk : WOk G W) (r : RVs G W vs ds) (e : M3.call P k f ds W.S = some (x, S')) (h : ∀ v W', Ext W W' → WOk G W' → W'.S = S' → SlR G W W' x v → Q v W'.H) : spD G P k f vs W.H Q :=
  ⟨W, ds, x, S', rfl, hk, r, e, h⟩
/-- the arguments -/
theorem sa_nil : PA X [] (tA G fun _ S => some ([], S)) := by
  refine pa_nil.imp fun τ H Q hq => ?_
  obtain ⟨W0, W, σ, xs, S', rfl, h2, h3, h4, h5⟩ := hq
  cases h4
  exact h5 [] W (Ext.refl W) h2 rfl .nil
theorem sa_cons {e : Expr} {es : List Expr} {r : RE} {rs : Sl → Sto → Option (List T × Sto)} (he : PE X e (tE G r)) (hs : PA X es (tA G rs)) (ns : starEach (e :: es) X.env = (false, eval e X.env) :: starEach es X.env) :
    PA X (e :: es) (tA G (argsR r rs)) := by
  refine (pa_cons he hs ns).imp fun τ H Q hq => ?_
  obtain ⟨W0, W, σ, xs, S', rfl, h2, h3, h4, h5⟩ := hq
  unfold argsR at h4
  split at h4
  rotate_left
  · cases h4
  rename_i x S1 e1
  split at h4
  rotate_left
  · cases h4
  rename_i ys S2 e2
  cases h4
  refine ⟨W0, W, σ, x, S1, rfl, h2, h3, e1, fun v W1 x1 k1 s1 r1 => ?_⟩
  obtain ⟨W1', eH, eS, x1', g1, k1', rv⟩ := r1.freeze x1 k1
  rw [← eH]
  refine ⟨W0, W1', σ, ys, _, rfl, k1', h3.mono x1' h2, by rw [eS, s1]; exact e2, fun vs W2 x2 k2 s2 r2 => ?_⟩
  exact h5 (v :: vs) W2 (x1'.trans x2 k1') k2 s2 (.cons (rv.mono (x2.gr k1')) r2)
theorem se_callArgs {f : Nat} {es : List Expr} {rs : Sl → Sto → Option (List T × Sto)} {e : Expr} (hs : PA X es (tA G rs))
    (mk : ∀ {t : TA} , PA X es t → PE X e (fun σ H Q => t σ H fun vs H1 => spD G P k f vs H1 Q)) : PE X e (tE G (callR (M3.call P k f) rs)) := by
  refine (mk hs).imp fun τ H Q hq => ?_
  obtain ⟨W0, W, σ, x, S', rfl, h2, h3, h4, h5⟩ := hq
  unfold callR at h4
  split at h4
  rotate_left
  · cases h4
  rename_i xs S1 e1
  refine ⟨W0, W, σ, xs, S1, rfl, h2, h3, e1, fun vs W1 x1 k1 s1 r1 => ?_⟩
  exact spD_of k1 r1 (by rw [s1]; exact h4) fun v W2 x2 k2 s2 r2 => h5 v W2 (x1.trans x2 k1) k2 s2 (r2.back x1 k1)
/-- f(..) of the text's own def -/
theorem se_call {f : Nat} {x : Str} {a : Addr} {p pos : Pos} {e : Expr} {es : List Expr} {rs : Sl → Sto → Option (List T × Sto)} (xo : XOk G X N sc k) (F : FnAt G P k f x a) (hg : Gl X x) (hs : PA X (e :: es) (tA G rs)) (hdb : (x == ("__debug__" : Str)) = false)
    (h1 : starEach (e :: es) X.env = (false, eval e X.env) :: starEach es X.env) (h2 : (backTo pos (starEach es X.env)).any (·.1) = false) : PE X (.Call (.Name x p) (e :: es) [] pos) (tE G (callR (M3.call P k f) rs)) := by
  have hm : X.mg x = some (.ref a) := by rw [xo.mg]; exact F.mg
  have hk : PySem.W.keepIn X.K (.ref a) = true := by rw [xo.K]; exact F.kp
  refine se_callArgs (f := f) hs fun {t} ha => ⟨fun pins s σ H Q I h => ?_⟩
  refine wpAny_Call_Name_kw (ld_glob I hg hm ?_ hdb)
  exact PySem.W.callWith_K (h₀ := X.base) I.ok.mod.kin hk (thn (ha.run pos pins s σ H _ I h) fun us s1 ⟨vs, H1, I1, r, q⟩ => ⟨I1.kIn, run_call xo F I1 r q⟩) h1 h2
theorem se_call0 {f : Nat} {x : Str} {a : Addr} {p pos : Pos} (xo : XOk G X N sc k) (F : FnAt G P k f x a) (hg : Gl X x) (hdb : (x == ("__debug__" : Str)) = false) : PE X (.Call (.Name x p) [] [] pos) (tE G (callR (M3.call P k f) fun _ S => some ([], S))) := by
  have hm : X.mg x = some (.ref a) := by rw [xo.mg]; exact F.mg
  have hk : PySem.W.keepIn X.K (.ref a) = true := by rw [xo.K]; exact F.kp
  refine ⟨fun pins s τ H Q I hq => ?_⟩
  obtain ⟨W0, W, σ, z, S', rfl, h2, h3, h4, h5⟩ := hq
  refine wpAny_Call_Name_kw (ld_glob I hg hm ?_ hdb)
  exact PySem.W.callWith_K0 I.kIn hk (run_call (us := []) xo F I .nil (spD_of h2 .nil h4 h5))
/-- f(..), f a local name that holds a def -/
theorem se_callv {i : Nat} {x : Str} {p pos : Pos} {e : Expr} {es : List Expr} {rs : Sl → Sto → Option (List T × Sto)} {fn : List Str} (xo : XOk G X N sc k) (F : Fns G P fn k) (hv : PE X (.Name x p) (tVar i)) (hs : PA X (e :: es) (tA G rs))
    (h1 : starEach (e :: es) X.env = (false, eval e X.env) :: starEach es X.env) (h2 : (backTo pos (starEach es X.env)).any (·.1) = false) : PE X (.Call (.Name x p) (e :: es) [] pos) (tE G (callvR (M3.call P k) i rs)) := by
  refine ⟨fun pins s τ H Q I hq => ?_⟩
  obtain ⟨W0, W, σ, z, S', rfl, k2, k3, k4, k5⟩ := hq
  unfold callvR at k4
  split at k4
  rotate_left
  · cases k4
  rename_i f hf
  obtain ⟨v, e1, e2⟩ := k3.at' i _ hf
  have e2' : RV G W v (.fn f) := e2
  cases e2' with
  | fn hfa =>
    rename_i a
    obtain ⟨y, _, Fa⟩ := F.of f a hfa
    have hk : PySem.W.keepIn X.K (.ref a) = true := by rw [xo.K]; exact Fa.kp
    refine wpAny_Call_Name_kw (thn (hv.run pins s τ W.H (fun v H1 => v = .ref a ∧ H1 = W.H) I ⟨.ref a, e1, rfl, rfl⟩) fun u s1 ⟨v, H1, I1, r1, q1⟩ => ?_)
    obtain ⟨rfl, rfl⟩ := q1
    cases r1
    have ha : PE X (.Call (.Name x p) (e :: es) [] pos) (tE G (callR (M3.call P k f) rs)) → True := fun _ => trivial
    have run : ∀ (t : TA), PA X (e :: es) t → t τ W.H (fun vs H1 => spD G P k f vs H1 Q) → wpAny (model X.prog X.w) X.A (callWith pos (.ref a) [] (backTo pos (starEach (e :: es) X.env)) []) (EP X pins τ Q) X.xe s1 := fun t ha ht =>
      PySem.W.callWith_K (h₀ := X.base) I.ok.mod.kin hk (thn (ha.run pos pins s1 τ W.H _ I1 ht) fun us s2 ⟨vs, H2, I2, r, q⟩ => ⟨I2.kIn, run_call xo Fa I2 r q⟩) h1 h2
    refine run _ hs ?_
    unfold callR at k4
    split at k4
    rotate_left
    · cases k4
    rename_i xs S1 e1
    refine ⟨W0, W, σ, xs, S1, rfl, k2, k3, e1, fun vs W1 x1 k1 s1 r1 => ?_⟩
    exact spD_of k1 r1 (by rw [s1]; exact k4) fun v W2 x2 k2 s2 r2 => k5 v W2 (x1.trans x2 k1) k2 s2 (r2.back x1 k1)

/-! ### built-in calls -/
theorem se_r1 {e e1 : Expr} {r : RE} {f : T → Option T} {R : List V → Hp → VK → Prop} (ha : PE X e1 (tB G r)) (mk : ∀ {t : TA}, PA X [e1] t → PE X e (tCB R t)) (ns : starEach [e1] X.env = (false, eval e1 X.env) :: starEach [] X.env) (hR : ∀ vs H Q, r1 G f vs H Q → R vs H Q) :
    PE X e (tE G (bind1 r (lift1 f))) := by
  refine (mk (pa_cons ha pa_nil ns)).imp fun τ H Q hq => ?_
  obtain ⟨W0, W, σ, z, S', rfl, h2, h3, h4, h5⟩ := hq
  unfold bind1 at h4
  split at h4
  rotate_left
  · cases h4
  rename_i x S1 e1
  obtain ⟨z', e3, e4⟩ := Option.map_eq_some_iff.mp (show (f x).map (fun z => (z, S1)) = some (z, S') from h4)
  cases e4
  refine ⟨W0, W, σ, x, _, rfl, h2, h3, e1, fun v W1 x1 k1 s1 r1 => hR _ _ _ ⟨W1, x, v, z, rfl, rfl, k1, r1, e3, Gives.ext x1 k1 s1 h5⟩⟩
theorem se_r2 {e e1 e2 : Expr} {r r' : RE} {f : T → T → Option T} {R : List V → Hp → VK → Prop} (ha : PE X e1 (tB G r)) (hb : PE X e2 (tB G r')) (mk : ∀ {t : TA}, PA X [e1, e2] t → PE X e (tCB R t)) (ns : starEach [e1, e2] X.env = (false, eval e1 X.env) :: starEach [e2] X.env) (ns2 : starEach [e2] X.env = (false, eval e2 X.env) :: starEach [] X.env)
    (hR : ∀ x y H Q, r2 G f x y H Q → R [x, y] H Q) : PE X e (tE G (bind2 r r' (lift2 f))) := by
  refine (mk (pa_cons ha (pa_cons hb pa_nil ns2) ns)).imp fun τ H Q hq => ?_
  obtain ⟨W0, W, σ, z, S', rfl, h2, h3, h4, h5⟩ := hq
  unfold bind2 at h4
  split at h4
  rotate_left
  · cases h4
  rename_i x S1 e1
  split at h4
  rotate_left
  · cases h4
  rename_i y S2 e2
  obtain ⟨z', e3, e4⟩ := Option.map_eq_some_iff.mp (show (f x y).map (fun z => (z, S2)) = some (z, S') from h4)
  cases e4
  refine ⟨W0, W, σ, x, S1, rfl, h2, h3, e1, fun v W1 x1 k1 s1 r1 => ?_⟩
  refine ⟨W0, W1, σ, y, _, rfl, k1, h3.mono x1 h2, by rw [s1]; exact e2, fun u W2 x2 k2 s2 r2' => hR _ _ _ _ ?_⟩
  exact ⟨W2, x, y, z, rfl, k2, r1.mono x2 k1, r2', e3, Gives.ext (x1.trans x2 k1) k2 s2 h5⟩
theorem cR_max2 (hc : X.calm = true) : ∀ x y H Q, r2 G max2T x y H Q → (fun xs H Q => ∃ i j, xs = [V.int i, V.int j] ∧ Q (V.int (if j > i then j else i)) H : List V → Hp → VK → Prop) [x, y] H Q := by
  intro x y H Q hq
  obtain ⟨W, a, b, z, rfl, k, ra, rb, e, g⟩ := hq
  unfold max2T at e
  split at e
  · cases e
    cases RV.inv_int ra
    cases RV.inv_int rb
    exact ⟨_, _, rfl, g.d k (.int _)⟩
  · cases e
/-- isinstance(x, str) -/
theorem se_isStr {e1 : Expr} {r : RE} {p q pos : Pos} (xo : XOk G X N sc k) (ha : PE X e1 (tB G r)) (g1 : Gl X "isinstance") (m1 : X.mg "isinstance" = none) (g2 : Gl X "str") (m2 : X.mg "str" = none)
    (ns : ∀ es, starEach (e1 :: es) X.env = (false, eval e1 X.env) :: starEach es X.env) : PE X (.Call (.Name "isinstance" p) [e1, .Name "str" q] [] pos) (tE G (bind1 r (lift1 isStrT))) := by
  have hb : PE X (.Name "str" q) (tC (.ty "str")) := pe_bltn g2 m2 PyProof.Rows.boot_str rfl
  refine (pe_callB call_isi g1 m1 PyProof.Rows.boot_isinstance (pa_cons ha (pa_cons hb pa_nil rfl) (ns _)) (by decide) (by decide) (ns _) rfl).imp fun τ H Q hq => ?_
  obtain ⟨W0, W, σ, z, S', rfl, h2, h3, h4, h5⟩ := hq
  unfold bind1 at h4
  split at h4
  rotate_left
  · cases h4
  rename_i x S1 e1
  obtain ⟨z', e3, e4⟩ := Option.map_eq_some_iff.mp (show (isStrT x).map (fun z => (z, S1)) = some (z, S') from h4)
  cases e4
  refine ⟨W0, W, σ, x, _, rfl, h2, h3, e1, fun v W1 x1 k1 s1 r1 => ?_⟩
  unfold isStrT at e3
  split at e3
  · cases e3
    cases RV.inv_str r1
    exact ⟨_, _, _, _, true, rfl, .ty "str", .base (.str _), kit_ty (by decide +kernel), h5 _ W1 x1 k1 s1 (.bl true)⟩
  · cases e3
    cases RV.inv_int r1
    exact ⟨_, _, _, _, false, rfl, .ty "str", .base (.int _), kit_ty (by decide +kernel), h5 _ W1 x1 k1 s1 (.bl false)⟩
  · cases e3
end
end M3
/-! M3i: the other expressions. -/
namespace M3
open PySem PySem.Spec PyProof.Rows L2
section
variable {G : Gm} {X : Cx} {N : List Str} {sc : Scope} {k : Nat} {P : Pg}
/-- sep.join(x), sep written -/
theorem se_join {eo ea : Expr} {ro ra : RE} {apos pos : Pos} (xo : XOk G X N sc k) (ho : PE X eo (tB G ro)) (ha : PE X ea (tB G ra)) (hbase : attributeBase eo "join" X.env (eval eo X.env) = eval eo X.env) (hline : (apos.endLine == pos.line) = true)
    (ns : ∀ es, starEach (ea :: es) X.env = (false, eval ea X.env) :: starEach es X.env) :
    PE X (.Call (.Attribute eo "join" apos) [ea] [] pos) (tE G (bind2 ro ra (lift2 fun x y => (joinD x.fz y).map .v))) := by
  have hfew : ((backTo pos (starEach [ea] X.env)).all (fun x => !x.1) && (backToKw pos (keywordEach [] X.env)).all (fun x => x.1.isSome) && decide ([ea].length + ([] : List Keyword).length + (if ([] : List Keyword).isEmpty then 0 else 1) < 30)) = true := by
    rw [ns []]
    rfl
  refine (pe_bm PySem.F.plainAttrs_str PySem.F.slot_str_join PySem.F.type_str_join (mtR_join xo.K) ho (pa_cons ha pa_nil (ns [])) hbase hfew hline (ns []) rfl).imp fun τ H Q hq => ?_
  obtain ⟨W0, W, σ, z, S', rfl, h2, h3, h4, h5⟩ := hq
  unfold bind2 at h4
  split at h4
  rotate_left
  · cases h4
  rename_i x S1 e1
  split at h4
  rotate_left
  · cases h4
  rename_i y S2 e2
  obtain ⟨z', e3, e4⟩ := Option.map_eq_some_iff.mp (show ((joinD x.fz y).map T.v).map (fun z => (z, S2)) = some (z, S') from h4)
  cases e4
  obtain ⟨d, e5, rfl⟩ := Option.map_eq_some_iff.mp e3
  refine ⟨W0, W, σ, x, S1, rfl, h2, h3, e1, fun v W1 x1 k1 s1 r1 => ?_⟩
  have hs : ∃ cs, x = .v (.str cs) := by
    unfold joinD at e5
    split at e5
    · rename_i cs _ hx _
      exact ⟨cs, TRb.fz_v r1 hx fun _ z => nomatch z⟩
    · cases e5
  obtain ⟨cs, rfl⟩ := hs
  cases RV.inv_str r1
  refine ⟨rfl, W0, W1, σ, y, _, rfl, k1, h3.mono x1 h2, by rw [s1]; exact e2, fun u W2 x2 k2 s2 r2' => ?_⟩
  exact ⟨W2, .str cs, y, u, d, rfl, rfl, k2, .str cs, r2', e5, Gives.ext (x1.trans x2 k1) k2 s2 h5⟩
theorem repl_dbl (y : Nat) (s : List Nat) : StrLaws.replL [y] [y, y] s = dbl y s := by
  induction s with
  | nil => exact StrLaws.replL_nil
  | cons c r ih =>
    by_cases h : c = y
    · subst h
      rw [StrLaws.replL_hit (by simp) (by simp)]
      show [c, c] ++ StrLaws.replL [c] [c, c] r = _
      rw [ih]
      simp [dbl]
    · rw [StrLaws.replL_miss (by simpa using h), ih]
      simp [dbl, h]
/-- "s" + x.replace("y", "yy") -/
theorem se_addRepl {eo : Expr} {r : RE} {s : List Nat} {y : Nat} {j1 j2 j3 : Nat} {p1 p2 p3 apos pos pos2 : Pos} (ho : PE X eo (tB G r)) (hbase : attributeBase eo "replace" X.env (eval eo X.env) = eval eo X.env) (hline : (apos.endLine == pos.line) = true) :
    PE X (.BinOp (.Constant (.str ⟨s.toArray⟩) j1 p1) .Add (.Call (.Attribute eo "replace" apos) [.Constant (.str ⟨#[y]⟩) j2 p2, .Constant (.str ⟨#[y, y]⟩) j3 p3] [] pos) pos2) (tE G (bind1 r (lift1 (addReplT s y)))) := by
  refine ⟨fun pins sh τ H Q I hq => ?_⟩
  obtain ⟨W0, W, σ, z, S', rfl, h2, h3, h4, h5⟩ := hq
  unfold bind1 at h4
  split at h4
  rotate_left
  · cases h4
  rename_i x S1 e1
  obtain ⟨z', e3, e4⟩ := Option.map_eq_some_iff.mp (show (addReplT s y x).map (fun z => (z, S1)) = some (z, S') from h4)
  cases e4
  have hne : ((⟨#[y]⟩ : Str) == ⟨#[y, y]⟩) = false := by
    rw [beq_eq_false_iff_ne]
    intro h
    have := congrArg (fun x : Str => x.cps.size) h
    simp at this
  refine wpAny_BinOp (Calls.Constant_str ?_)
  have hp := CwR.pet_replC (X := X) (y := ⟨#[y]⟩) (z := ⟨#[y, y]⟩) (j := j2) (k := j3) (c0 := p2) (c1 := p3) (apos := apos) (pos := pos) ho hne rfl hbase hline
  refine thn (hp pins { sh with toks := sh.toks + 1 } τ W.H (fun v H1 => ∃ l, v = .str ⟨l.toArray⟩ ∧ s.length + l.length ≤ sizeLine ∧ Q (.str ⟨(s ++ l).toArray⟩) H1) (by show 1 ≤ sh.toks + 1; omega) (I.tok _) ?_) fun u s2 ⟨v, H2, I2, r2, q2⟩ => ?_
  · refine ⟨W0, W, σ, x, _, rfl, h2, h3, e1, fun v W1 x1 k1 s1 r1 => ?_⟩
    unfold addReplT at e3
    split at e3
    rotate_left
    · cases e3
    rename_i cs
    split at e3
    rotate_left
    · cases e3
    rename_i hz
    cases e3
    cases RV.inv_str r1
    have hr : Txt.replace ⟨cs.toArray⟩ ⟨#[y]⟩ ⟨#[y, y]⟩ = ⟨(dbl y cs).toArray⟩ := by
      refine str_of ?_
      rw [StrLaws.replace_list (by simp [Str.length])]
      exact repl_dbl y cs
    have hlen := TK.replace_len ⟨cs.toArray⟩ ⟨#[y]⟩ ⟨#[y, y]⟩
    rw [hr, sl_len, sl_len] at hlen
    have e2 : (⟨#[y, y]⟩ : Str).length = 2 := rfl
    rw [e2] at hlen
    refine ⟨_, rfl, ?_, ?_⟩
    · rw [sl_len, e2]
      have : cap = 16777216 := rfl
      omega
    · rw [hr]
      exact ⟨_, rfl, by rw [← cap_line]; omega, h5 _ W1 x1 k1 s1 (.str _)⟩
  · obtain ⟨l, rfl, hz, q⟩ := q2
    refine op_add_str pins s2 τ H2 (.str ⟨s.toArray⟩) _ _ u Q I2 ⟨_, rfl⟩ r2 ⟨_, _, rfl, rfl, by rw [sl_len, sl_len]; exact hz, ?_⟩
    rw [str_app]
    exact q
/-! ### subscripts and displays -/
theorem se_idx {ea ei : Expr} {ra ri : RE} {pos : Pos} (xo : XOk G X N sc k) (ha : PE X ea (tB G ra)) (hi : PE X ei (tB G ri)) (hp : PlainIx ei) : PE X (.Subscript ea ei pos) (tE G (bind2 ra ri idxT)) := by
  refine (pe_ix (ixR_of xo.K) ha hi hp).imp fun τ H Q hq => ?_
  obtain ⟨W0, W, σ, z, S', rfl, h2, h3, h4, h5⟩ := hq
  unfold bind2 at h4
  split at h4
  rotate_left
  · cases h4
  rename_i x S1 e1
  split at h4
  rotate_left
  · cases h4
  rename_i y S2 e2
  unfold idxT at h4
  split at h4
  rotate_left
  · cases h4
  obtain ⟨d, e3, e4⟩ := Option.map_eq_some_iff.mp h4
  cases e4
  refine ⟨W0, W, σ, x, S1, rfl, h2, h3, e1, fun v W1 x1 k1 s1 r1 => ?_⟩
  refine ⟨W0, W1, σ, _, _, rfl, k1, h3.mono x1 h2, by rw [s1]; exact e2, fun u W2 x2 k2 s2 r2' => ?_⟩
  exact ⟨W2, x, _, d, rfl, k2, r1.mono x2 k1, RV.inv_int r2', by rw [s2]; exact e3, Gives.ext (x1.trans x2 k1) k2 s2 h5⟩
/-- a bound of a slice -/
def tOpt (G : Gm) (r : Sl → Sto → Option (Option Int × Sto)) : TO := fun τ H Q => ∃ W0 W σ x S', W.H = H ∧ WOk G W ∧ FrOk G W0 W σ τ ∧ r σ W.S = some (x, S') ∧ ∀ W', Ext W W' → WOk G W' → W'.S = S' → Q x W'.H
theorem _root_.L2.PO.imp {e : Option Expr} {t t' : TO} (h : PO X e t) (i : ∀ σ H Q, t' σ H Q → t σ H Q) : PO X e t' := ⟨fun pins s σ H Q I q => h.run pins s σ H Q I (i σ H Q q)⟩
theorem so_none : PO X none (tOpt G (optI Sm.none)) := by
  refine po_none.imp fun τ H Q hq => ?_
  obtain ⟨W0, W, σ, z, S', rfl, h2, h3, h4, h5⟩ := hq
  cases h4
  exact h5 W (Ext.refl W) h2 rfl
theorem so_some {e : Expr} {m : Sm} (h : SOk G X e m) : PO X (some e) (tOpt G (optI m)) := by
  refine (po_some h.b).imp fun τ H Q hq => ?_
  obtain ⟨W0, W, σ, z, S', rfl, h2, h3, h4, h5⟩ := hq
  unfold optI at h4
  rw [if_neg (by rw [h.no]; exact Bool.false_ne_true)] at h4
  split at h4
  rotate_left
  · cases h4
  rename_i i S1 e1
  cases h4
  exact ⟨W0, W, σ, _, _, rfl, h2, h3, e1, fun v W1 x1 k1 s1 r1 => ⟨i, RV.inv_int r1, h5 W1 x1 k1 s1⟩⟩
theorem se_sl {ea : Expr} {lo hi : Option Expr} {ra : RE} {rl rh : Sl → Sto → Option (Option Int × Sto)} {p2 pos : Pos} (xo : XOk G X N sc k) (ha : PE X ea (tB G ra)) (hl : PO X lo (tOpt G rl)) (hh : PO X hi (tOpt G rh)) : PE X (.Subscript ea (.Slice lo hi none p2) pos) (tE G (cutR ra rl rh)) := by
  refine (pe_slice (slR_of xo.K) ha hl hh).imp fun τ H Q hq => ?_
  obtain ⟨W0, W, σ, z, S', rfl, h2, h3, h4, h5⟩ := hq
  unfold cutR at h4
  split at h4
  rotate_left
  · cases h4
  rename_i x S1 e1
  split at h4
  rotate_left
  · cases h4
  rename_i l S2 e2
  split at h4
  rotate_left
  · cases h4
  rename_i h S3 e3
  obtain ⟨d, e5, e4⟩ := Option.map_eq_some_iff.mp h4
  cases e4
  refine ⟨W0, W, σ, x, S1, rfl, h2, h3, e1, fun v W1 x1 k1 s1 r1 => ?_⟩
  refine ⟨W0, W1, σ, l, S2, rfl, k1, h3.mono x1 h2, by rw [s1]; exact e2, fun W2 x2 k2 s2 => ?_⟩
  have x12 := x1.trans x2 k1
  refine ⟨W0, W2, σ, h, _, rfl, k2, h3.mono x12 h2, by rw [s2]; exact e3, fun W3 x3 k3 s3 => ?_⟩
  exact ⟨W3, x, z, rfl, k3, (r1.mono x2 k1).mono x3 k2, e5, Gives.ext (x12.trans x3 k2) k3 s3 h5⟩
theorem cap_le {n : Nat} (h : n ≤ cap) : n ≤ sizeLine := by rw [← cap_line]; exact h
theorem fzs_len (xs : List T) : (fzs xs).length = xs.length := List.length_map ..
theorem se_tup {es : List Expr} {rs : Sl → Sto → Option (List T × Sto)} {j : Nat} {pos : Pos} (hs : PA X es (tA G rs)) : PE X (.Tuple es j pos) (tE G (dispR (fun ds S => (.v (.tup ds), S)) rs)) := by
  refine (pe_tup hs).imp fun τ H Q hq => ?_
  obtain ⟨W0, W, σ, z, S', rfl, h2, h3, h4, h5⟩ := hq
  unfold dispR at h4
  split at h4
  rotate_left
  · cases h4
  rename_i xs S1 e1
  split at h4
  rotate_left
  · cases h4
  rename_i hz
  cases h4
  refine ⟨W0, W, σ, xs, _, rfl, h2, h3, e1, fun vs W1 x1 k1 s1 r1 => ⟨cap_le (by rw [r1.length, fzs_len]; exact hz), ?_⟩⟩
  exact (Gives.ext x1 k1 s1 h5).tup k1 r1
theorem se_lst {es : List Expr} {rs : Sl → Sto → Option (List T × Sto)} {pos : Pos} (hs : PA X es (tA G rs)) : PE X (.List es pos) (tE G (dispR (fun ds S => (.own ds, S)) rs)) := by
  refine (pe_lst hs).imp fun τ H Q hq => ?_
  obtain ⟨W0, W, σ, z, S', rfl, h2, h3, h4, h5⟩ := hq
  unfold dispR at h4
  split at h4
  rotate_left
  · cases h4
  rename_i xs S1 e1
  split at h4
  rotate_left
  · cases h4
  rename_i hz
  cases h4
  refine ⟨W0, W, σ, xs, _, rfl, h2, h3, e1, fun vs W1 x1 k1 s1 r1 => ⟨cap_le (by rw [r1.length, fzs_len]; exact hz), ?_⟩⟩
  exact (Gives.ext x1 k1 s1 h5).own k1 r1
/-- a list for the store -/
theorem se_tape {es : List Expr} {rs : Sl → Sto → Option (List T × Sto)} {pos : Pos} (hs : PA X es (tA G rs)) : PE X (.List es pos) (tE G (dispR (fun ds S => (.v (.ref S.length), S ++ [ds])) rs)) := by
  refine (pe_lst hs).imp fun τ H Q hq => ?_
  obtain ⟨W0, W, σ, z, S', rfl, h2, h3, h4, h5⟩ := hq
  unfold dispR at h4
  split at h4
  rotate_left
  · cases h4
  rename_i xs S1 e1
  split at h4
  rotate_left
  · cases h4
  rename_i hz
  cases h4
  refine ⟨W0, W, σ, xs, _, rfl, h2, h3, e1, fun vs W1 x1 k1 s1 r1 => ⟨cap_le (by rw [r1.length, fzs_len]; exact hz), fun p hp => ?_⟩⟩
  have ex : Ext W1 (W1.up p (.lst vs)) := Ext.lay hp
  have gr := ex.gr k1
  let W2 : Wd := { W1 with H := upd W1.H p (.lst vs), mu := W1.mu ++ [p], S := W1.S ++ [fzs xs] }
  have g2 : Gr W1 W2 := ⟨gr.fs, gr.st, gr.tp, gr.fz, [p], rfl⟩
  have x2 : Ext W1 W2 := ⟨ex.fs, ex.st, ex.fr, [p], rfl, fun a ha => by
    have : a = p := by simpa using ha
    rw [this]; exact hp⟩
  have np := k1.notMu hp
  have k2 : WOk G W2 := by
    have k0 := k1.lay (o := .lst vs) hp
    refine ⟨?_, ?_, fun r a hr => ?_, k0.fk⟩
    · show (W1.mu ++ [p]).length = (W1.S ++ [fzs xs]).length
      rw [List.length_append, List.length_append, k1.len]; rfl
    · show (W1.mu ++ [p]).Nodup
      rw [List.nodup_append]
      refine ⟨k1.nd, by simp, fun a ha b hb => ?_⟩
      have : b = p := by simpa using hb
      rw [this]
      exact fun z => np (by rw [← z]; exact ha)
    · have hr' : (W1.mu ++ [p])[r]? = some a := hr
      show ∃ vs' ds, (W1.S ++ [fzs xs])[r]? = some ds ∧ upd W1.H p (.lst vs) a = some (.lst vs') ∧ RVs G W2 vs' ds ∧ ¬ W1.F a
      by_cases hlt : r < W1.mu.length
      · rw [List.getElem?_append_left hlt] at hr'
        obtain ⟨vs', ds, q1, q2, q3, q4⟩ := k1.at' r a hr'
        refine ⟨vs', ds, ?_, ?_, q3.mono g2, q4⟩
        · rw [List.getElem?_append_left (by rw [← k1.len]; exact hlt)]; exact q1
        · rw [upd_ne (ne_of_none q2 hp)]; exact q2
      · have hrl : r < (W1.mu ++ [p]).length := (List.getElem?_eq_some_iff.mp hr').1
        rw [List.length_append] at hrl
        have er : r = W1.mu.length := by
          have : [p].length = 1 := rfl
          omega
        subst er
        rw [List.getElem?_append_right (Nat.le_refl _), Nat.sub_self] at hr'
        cases hr'
        refine ⟨vs, fzs xs, ?_, upd_same, r1.mono g2, fun f => k1.fk p f hp⟩
        rw [k1.len, List.getElem?_append_right (Nat.le_refl _), Nat.sub_self]
        rfl
  refine h5 (.ref p) W2 (x1.trans x2 k1) k2 ?_ (.ref ?_)
  · show W1.S ++ [fzs xs] = _
    rw [s1]
  · show (W1.mu ++ [p])[_]? = _
    rw [← s1, ← k1.len, List.getElem?_append_right (Nat.le_refl _), Nat.sub_self]
    rfl

/-! ### logic -/
theorem se_neg {ea : Expr} {ra : RE} {pos : Pos} (ha : PE X ea (tB G ra)) : PE X (.UnaryOp .USub ea pos) (tE G (negR ra)) := by
  refine (pe_un un_neg ha).imp fun τ H Q hq => ?_
  obtain ⟨W0, W, σ, z, S', rfl, h2, h3, h4, h5⟩ := hq
  unfold negR bind1 at h4
  split at h4
  rotate_left
  · cases h4
  rename_i x S1 e1
  dsimp only at h4
  split at h4
  rotate_left
  · cases h4
  cases h4
  exact ⟨W0, W, σ, _, _, rfl, h2, h3, e1, fun v W1 x1 k1 s1 r1 => ⟨_, RV.inv_int r1, h5 _ W1 x1 k1 s1 (.int _)⟩⟩
theorem se_not {ea : Expr} {ra : RE} {pos : Pos} (ha : PE X ea (tE G ra)) : PE X (.UnaryOp .Not ea pos) (tE G (notR ra)) := by
  refine (pe_not ha).imp fun τ H Q hq => ?_
  obtain ⟨W0, W, σ, z, S', rfl, h2, h3, h4, h5⟩ := hq
  unfold notR bind1 at h4
  split at h4
  rotate_left
  · cases h4
  rename_i x S1 e1
  dsimp only at h4
  split at h4
  rotate_left
  · cases h4
  cases h4
  exact ⟨W0, W, σ, _, _, rfl, h2, h3, e1, fun v W1 x1 k1 s1 r1 => ⟨_, RV.inv_bl r1, h5 _ W1 x1 k1 s1 (.bl _)⟩⟩
theorem st_not {ea : Expr} {ra : Sl → Sto → Option (Bool × Sto)} {pos : Pos} (ha : PT X ea (tT G ra)) : PT X (.UnaryOp .Not ea pos) (tT G (notT ra)) := by
  refine (pt_not ha).imp fun τ H Q hq => ?_
  obtain ⟨W0, W, σ, z, S', rfl, h2, h3, h4, h5⟩ := hq
  unfold notT at h4
  obtain ⟨q, e1, e2⟩ := Option.map_eq_some_iff.mp h4
  obtain ⟨b, S1⟩ := q
  cases e2
  exact ⟨W0, W, σ, _, _, rfl, h2, h3, e1, fun W1 x1 k1 s1 => h5 W1 x1 k1 s1⟩
theorem se_and {ea eb : Expr} {rest : List Expr} {ra rb : RE} {pos : Pos} (ha : PE X ea (tE G ra)) (hb : PE X (.BoolOp .And (eb :: rest) pos) (tE G rb)) : PE X (.BoolOp .And (ea :: eb :: rest) pos) (tE G (andR ra rb)) := by
  refine (pe_and ha hb).imp fun τ H Q hq => ?_
  obtain ⟨W0, W, σ, z, S', rfl, h2, h3, h4, h5⟩ := hq
  unfold andR at h4
  split at h4
  · rename_i S1 e1
    exact ⟨W0, W, σ, _, _, rfl, h2, h3, e1, fun v W1 x1 k1 s1 r1 => ⟨true, RV.inv_bl r1, by
      refine iteT ?_
      exact ⟨W0, W1, σ, z, S', rfl, k1, h3.mono x1 h2, by rw [s1]; exact h4, fun u W2 x2 k2 s2 r2 => h5 u W2 (x1.trans x2 k1) k2 s2 (r2.back x1 k1)⟩⟩⟩
  · rename_i S1 e1
    cases h4
    exact ⟨W0, W, σ, _, _, rfl, h2, h3, e1, fun v W1 x1 k1 s1 r1 => ⟨false, RV.inv_bl r1, by
      refine iteF ?_
      exact h5 _ W1 x1 k1 s1 (.bl _)⟩⟩
  · cases h4
theorem se_or {ea eb : Expr} {rest : List Expr} {ra rb : RE} {pos : Pos} (ha : PE X ea (tE G ra)) (hb : PE X (.BoolOp .Or (eb :: rest) pos) (tE G rb)) : PE X (.BoolOp .Or (ea :: eb :: rest) pos) (tE G (orR ra rb)) := by
  refine (pe_or ha hb).imp fun τ H Q hq => ?_
  obtain ⟨W0, W, σ, z, S', rfl, h2, h3, h4, h5⟩ := hq
  unfold orR at h4
  split at h4
  · rename_i S1 e1
    exact ⟨W0, W, σ, _, _, rfl, h2, h3, e1, fun v W1 x1 k1 s1 r1 => ⟨false, RV.inv_bl r1, by
      refine iteF ?_
      exact ⟨W0, W1, σ, z, S', rfl, k1, h3.mono x1 h2, by rw [s1]; exact h4, fun u W2 x2 k2 s2 r2 => h5 u W2 (x1.trans x2 k1) k2 s2 (r2.back x1 k1)⟩⟩⟩
  · rename_i S1 e1
    cases h4
    exact ⟨W0, W, σ, _, _, rfl, h2, h3, e1, fun v W1 x1 k1 s1 r1 => ⟨true, RV.inv_bl r1, by
      refine iteT ?_
      exact h5 _ W1 x1 k1 s1 (.bl _)⟩⟩
  · cases h4
theorem st_and {ea eb : Expr} {rest : List Expr} {ra rb : Sl → Sto → Option (Bool × Sto)} {pos : Pos} (ha : PT X ea (tT G ra)) (hb : PW X (.BoolOp .And (eb :: rest) pos) (tT G rb)) : PW X (.BoolOp .And (ea :: eb :: rest) pos) (tT G (andT ra rb)) := by
  refine (pw_and ha hb).imp fun τ H Q hq => ?_
  obtain ⟨W0, W, σ, z, S', rfl, h2, h3, h4, h5⟩ := hq
  unfold andT at h4
  split at h4
  · rename_i S1 e1
    exact ⟨W0, W, σ, _, _, rfl, h2, h3, e1, fun W1 x1 k1 s1 => by
      refine iteT ?_
      exact ⟨W0, W1, σ, z, S', rfl, k1, h3.mono x1 h2, by rw [s1]; exact h4, fun W2 x2 k2 s2 => h5 W2 (x1.trans x2 k1) k2 s2⟩⟩
  · rename_i S1 e1
    cases h4
    exact ⟨W0, W, σ, _, _, rfl, h2, h3, e1, fun W1 x1 k1 s1 => by
      refine iteF ?_
      exact h5 W1 x1 k1 s1⟩
  · cases h4
theorem st_or {ea eb : Expr} {rest : List Expr} {ra rb : Sl → Sto → Option (Bool × Sto)} {pos : Pos} (ha : PT X ea (tT G ra)) (hb : PW X (.BoolOp .Or (eb :: rest) pos) (tT G rb)) : PW X (.BoolOp .Or (ea :: eb :: rest) pos) (tT G (orT ra rb)) := by
  refine (pw_or ha hb).imp fun τ H Q hq => ?_
  obtain ⟨W0, W, σ, z, S', rfl, h2, h3, h4, h5⟩ := hq
  unfold orT at h4
  split at h4
  · rename_i S1 e1
    exact ⟨W0, W, σ, _, _, rfl, h2, h3, e1, fun W1 x1 k1 s1 => by
      refine iteF ?_
      exact ⟨W0, W1, σ, z, S', rfl, k1, h3.mono x1 h2, by rw [s1]; exact h4, fun W2 x2 k2 s2 => h5 W2 (x1.trans x2 k1) k2 s2⟩⟩
  · rename_i S1 e1
    cases h4
    exact ⟨W0, W, σ, _, _, rfl, h2, h3, e1, fun W1 x1 k1 s1 => by
      refine iteT ?_
      exact h5 W1 x1 k1 s1⟩
  · cases h4
theorem se_cond {ec ea eb : Expr} {rc : Sl → Sto → Option (Bool × Sto)} {ra rb : RE} {pos : Pos} (hc : PT X ec (tT G rc)) (ha : PE X ea (tE G ra)) (hb : PE X eb (tE G rb)) : PE X (.IfExp ec ea eb pos) (tE G (condR rc ra rb)) := by
  refine (pe_ifExp hc ha hb).imp fun τ H Q hq => ?_
  obtain ⟨W0, W, σ, z, S', rfl, h2, h3, h4, h5⟩ := hq
  unfold condR at h4
  split at h4
  · rename_i S1 e1
    exact ⟨W0, W, σ, _, _, rfl, h2, h3, e1, fun W1 x1 k1 s1 => by
      refine iteT ?_
      exact ⟨W0, W1, σ, z, S', rfl, k1, h3.mono x1 h2, by rw [s1]; exact h4, fun u W2 x2 k2 s2 r2 => h5 u W2 (x1.trans x2 k1) k2 s2 (r2.back x1 k1)⟩⟩
  · rename_i S1 e1
    exact ⟨W0, W, σ, _, _, rfl, h2, h3, e1, fun W1 x1 k1 s1 => by
      refine iteF ?_
      exact ⟨W0, W1, σ, z, S', rfl, k1, h3.mono x1 h2, by rw [s1]; exact h4, fun u W2 x2 k2 s2 r2 => h5 u W2 (x1.trans x2 k1) k2 s2 (r2.back x1 k1)⟩⟩
  · cases h4
end
end M3
/-! M3j: targets, comprehensions, ranges. -/
namespace M3
open PySem PySem.Spec PyProof.Rows L2

def Pat.slots : Pat → List Nat
  | .one i => [i]
  | .tup is => is
theorem wipe_get (τ : L2.St) (i : Nat) : ∀ vs : List Nat, (L2.wipe τ vs)[i]? = if i ∈ vs ∧ i < τ.length then some none else τ[i]?
  | [] => by simp [L2.wipe]
  | v :: vs => by
    show ((L2.wipe τ vs).set v none)[i]? = _
    rw [List.getElem?_set, wipe_get τ i vs, L2.wipe_length]
    by_cases e : v = i
    · subst e
      by_cases hl : v < τ.length
      · simp [hl]
      · simp [hl]
    · have e' : ¬ i = v := fun z => e z.symm
      simp [e, e']
theorem wipe_wipe (τ : L2.St) (vs : List Nat) : L2.wipe (L2.wipe τ vs) vs = L2.wipe τ vs := by
  refine List.ext_getElem? fun i => ?_
  rw [wipe_get, wipe_get, L2.wipe_length]
  split <;> rfl
theorem wipe_set {τ : L2.St} {i : Nat} {x : Option V} {vs : List Nat} (h : i ∈ vs) : L2.wipe (τ.set i x) vs = L2.wipe τ vs := by
  refine List.ext_getElem? fun j => ?_
  rw [wipe_get, wipe_get, List.length_set]
  by_cases e : i = j
  · subst e
    by_cases hl : i < τ.length
    · simp [h, hl]
    · simp [hl, List.getElem?_eq_none (Nat.le_of_not_lt hl)]
  · rw [List.getElem?_set_ne e]

section
variable {G : Gm} {X : Cx} {N : List Str} {sc : Scope} {k : Nat} {P : Pg}
/-- a target and its readings -/
def tP (G : Gm) (p : Pat) : TG := fun v τ H Q => ∃ W0 W σ d σ', W.H = H ∧ WOk G W ∧ FrOk G W0 W σ τ ∧ RV G W v d ∧ p.put d σ = some σ' ∧
  ∀ τ', FrOk G W0 W σ' τ' → (∀ vs : List Nat, (∀ i ∈ p.slots, i ∈ vs) → L2.wipe τ' vs = L2.wipe τ vs) → Q τ' W.H
def tPs (G : Gm) (is : List Nat) : TGs := fun us τ H Q => ∃ W0 W σ ds σ', W.H = H ∧ WOk G W ∧ FrOk G W0 W σ τ ∧ RVs G W us ds ∧ setAll σ is ds = some σ' ∧
  ∀ τ', FrOk G W0 W σ' τ' → (∀ vs : List Nat, (∀ i ∈ is, i ∈ vs) → L2.wipe τ' vs = L2.wipe τ vs) → Q τ' W.H
/-- a name that may be stored -/
def StNm (X : Cx) (i : Nat) (x : Str) : Prop := X.N[i]? = some x ∧ Loc X.env.scope x ∧ (X.fn x = true ∨ X.env.scope.names.lookup x = some .local)
theorem _root_.L2.PG.imp {e : Expr} {t t' : TG} (h : PG X e t) (i : ∀ v σ H Q, t' v σ H Q → t v σ H Q) : PG X e t' := ⟨fun pins s σ H v u Q I r q => h.run pins s σ H v u Q I r (i v σ H Q q)⟩
theorem _root_.L2.PGs.imp {e : List Expr} {t t' : TGs} (h : PGs X e t) (i : ∀ v σ H Q, t' v σ H Q → t v σ H Q) : PGs X e t' := ⟨fun pins s σ H v u Q I r q => h.run pins s σ H v u Q I r (i v σ H Q q)⟩
theorem sg_one {i : Nat} {x : Str} {pos : Pos} (xo : XOk G X N sc k) (h : StNm X i x) : PG X (.Name x pos) (tP G (.one i)) := by
  refine (pg_name xo.nd h.1 h.2.1 h.2.2).imp fun v τ H Q hq => ?_
  obtain ⟨W0, W, σ, d, σ', rfl, h2, h3, h4, h5, h6⟩ := hq
  cases h5
  exact h6 _ (h3.setV h4) fun vs hi => wipe_set (hi i (List.mem_singleton.mpr rfl))
theorem sgs_nil : PGs X [] (tPs G []) := by
  refine pgs_nil.imp fun us τ H Q hq => ?_
  obtain ⟨W0, W, σ, ds, σ', rfl, h2, h3, h4, h5, h6⟩ := hq
  cases ds with
  | nil =>
    cases h4
    cases h5
    exact ⟨rfl, h6 τ h3 fun _ _ => rfl⟩
  | cons d ds => cases h5
theorem sgs_cons {i : Nat} {is : List Nat} {x : Str} {pos : Pos} {es : List Expr} (xo : XOk G X N sc k) (h : StNm X i x) (hs : PGs X es (tPs G is))
    (ha : (assignEach (.Name x pos :: es) X.env).map (·.2) = assign (.Name x pos) X.env :: (assignEach es X.env).map (·.2)) : PGs X (.Name x pos :: es) (tPs G (i :: is)) := by
  refine (pgs_cons (pg_name xo.nd h.1 h.2.1 h.2.2) hs ha).imp fun us τ H Q hq => ?_
  obtain ⟨W0, W, σ, ds, σ', rfl, h2, h3, h4, h5, h6⟩ := hq
  cases ds with
  | nil => cases h5
  | cons d ds =>
    cases h4 with
    | cons r1 r2 =>
      rename_i v vs
      refine ⟨v, vs, rfl, W0, W, σ.set i (some (.v d)), ds, σ', rfl, h2, h3.setV r1, r2, h5, fun τ' f hw => ?_⟩
      exact h6 τ' f fun ws hi => (hw ws fun j hj => hi j (List.mem_cons_of_mem _ hj)).trans (wipe_set (hi i List.mem_cons_self))
theorem setAll_len : ∀ {σ : Sl} {is : List Nat} {ds : List D} {σ' : Sl}, setAll σ is ds = some σ' → is.length = ds.length
  | _, [], [], _, _ => rfl
  | _, _ :: _, _ :: _, _, h => congrArg (· + 1) (setAll_len (show setAll _ _ _ = _ from h))
  | _, [], _ :: _, _, h => by cases h
  | _, _ :: _, [], _, h => by cases h
theorem sg_tup {is : List Nat} {es : List Expr} {j : Nat} {pos : Pos} (xo : XOk G X N sc k) (hs : PGs X es (tPs G is)) (hn : (assignEach es X.env).length = is.length) (hst : (assignEach es X.env).findIdx? (·.1) = none) : PG X (.Tuple es j pos) (tP G (.tup is)) := by
  refine (pg_tup xo.calm hs hn hst).imp fun v τ H Q hq => ?_
  obtain ⟨W0, W, σ, d, σ', rfl, h2, h3, h4, h5, h6⟩ := hq
  cases d with
  | tup ds =>
    obtain ⟨a, us, rfl, h7, h8⟩ := RV.inv_tup h4
    refine ⟨a, us, rfl, xo.K ▸ h7, ?_, W0, W, σ, ds, σ', rfl, h2, h3, h8, h5, h6⟩
    rw [h8.length]
    exact (setAll_len (show setAll σ is ds = some σ' from h5)).symm
  | _ => cases h5

/-! ### comprehensions -/
theorem drop_at {α : Type} {l : List α} {i : Nat} (h : i < l.length) : ∃ d, l[i]? = some d ∧ l.drop i = d :: l.drop (i + 1) :=
  ⟨l[i], List.getElem?_eq_getElem h, List.drop_eq_getElem_cons h⟩
theorem lc_imp {p : Pat} {vs : List Nat} {it : Sl → Sto → Option (List D × Sto)} {c : Sl → Sto → Option (Bool × Sto)} {r : RE} (hp : ∀ i ∈ p.slots, i ∈ vs) {τ : L2.St} {H : Hp} {Q : VK} (hq : tE G (lcR p vs it c r) τ H Q) :
    tLc (tI G it) (tP G p) (tT G c) (tE G r) vs τ H Q := by
  obtain ⟨W0, W, σ, z, S', rfl, h2, h3, h4, h5⟩ := hq
  unfold lcR at h4
  split at h4
  rotate_left
  · cases h4
  rename_i ds S1 e1
  obtain ⟨q, e2, e3⟩ := Option.map_eq_some_iff.mp h4
  obtain ⟨xs, S2⟩ := q
  cases e3
  refine ⟨W0, W, σ, ds, S1, rfl, h2, h3, e1, fun J W1 x1 k1 s1 jok => fun Dd hD => ?_⟩
  refine ⟨fun i m H => m = ds.length - i ∧ i ≤ ds.length ∧ ∃ W2 acc accV, W2.H = H ∧ Ext W1 W2 ∧ WOk G W2 ∧ W2.H Dd = some (.lst accV) ∧ RVs G W2 accV acc ∧ ¬ W2.F Dd ∧ Dd ∉ W2.mu ∧ lcL p vs c r σ (ds.drop i) acc W2.S = some (xs, S2),
    ⟨ds.length, by omega, Nat.zero_le _, W1.up Dd (.lst []), [], [], rfl, Ext.lay hD, k1.lay hD, upd_same, .nil, fun f => k1.fk _ f hD, k1.notMu hD, ?_⟩, ?_⟩
  · show lcL p vs c r σ (ds.drop 0) [] W1.S = some (xs, S2)
    rw [List.drop_zero, s1]
    exact e2
  rintro i m H ⟨hm, hi, W2, acc, accV, rfl, x2, k2, hDd, racc, nF, nmu, ev⟩
  have g2 : Gr W1 W2 := x2.gr k1
  by_cases hlt : i < ds.length
  · obtain ⟨d, hd, hdr⟩ := drop_at hlt
    rw [hdr] at ev
    unfold lcL at ev
    split at ev
    rotate_left
    · cases ev
    rename_i σ1 hput
    obtain ⟨hgo, hyl⟩ := (jok W2 g2 k2 i).1 d hd
    refine .inr ⟨hgo, fun H' => ∃ W3 acc accV, W3.H = H' ∧ Ext W1 W3 ∧ WOk G W3 ∧ W3.H Dd = some (.lst accV) ∧ RVs G W3 accV acc ∧ ¬ W3.F Dd ∧ Dd ∉ W3.mu ∧ lcL p vs c r σ (ds.drop (i + 1)) acc W3.S = some (xs, S2), fun H' hN => ⟨m - 1, by omega, by omega, by omega, hN⟩, fun x H' hy => ?_⟩
    obtain ⟨W3, rfl, x3, k3, s3, rv⟩ := hyl x H' hy
    have xW3 : Ext W W3 := x1.trans (x2.trans x3 k2) k1
    refine ⟨W0, W3, M3.wipe σ vs, d, σ1, rfl, k3, (h3.mono xW3 h2).wipe vs, rv, hput, fun τ2 f2 hw => ⟨(hw vs hp).trans (wipe_wipe τ vs), ?_⟩⟩
    split at ev
    · rename_i S1' hc
      refine ⟨W0, W3, σ1, true, S1', rfl, k3, f2, by rw [s3]; exact hc, fun W4 x4 k4 s4 => iteT ?_⟩
      split at ev
      rotate_left
      · cases ev
      rename_i y S2' he
      split at ev
      rotate_left
      · cases ev
      rename_i hcap
      refine ⟨W0, W4, σ1, y, S2', rfl, k4, f2.mono x4 k3, by rw [s4]; exact he, fun v W5 x5 k5 s5 r5 => ?_⟩
      have hD3 : W3.H Dd = some (.lst accV) := x3.st _ _ hDd nmu
      have n3 : Dd ∉ W3.mu := x3.muNot hDd nmu
      have hD4 : W4.H Dd = some (.lst accV) := x4.st _ _ hD3 n3
      have n4 : Dd ∉ W4.mu := x4.muNot hD3 n3
      have hD5 : W5.H Dd = some (.lst accV) := x5.st _ _ hD4 n4
      obtain ⟨W6, eH, eS, x6, g6, k6, rv6⟩ := r5.freeze x5 k5
      have hD6 : W6.H Dd = some (.lst accV) := by rw [eH]; exact hD5
      have n6 : Dd ∉ W6.mu := x6.muNot hD4 n4
      have nF3 : ¬ W3.F Dd := fun f => by
        rcases x3.fr _ f with f | f
        · exact nF f
        · rw [hDd] at f; cases f
      have nF4 : ¬ W4.F Dd := fun f => by
        rcases x4.fr _ f with f | f
        · exact nF3 f
        · rw [hD3] at f; cases f
      have nF6 : ¬ W6.F Dd := fun f => by
        rcases x6.fr _ f with f | f
        · exact nF4 f
        · rw [hD4] at f; cases f
      have x36 : Ext W3 W6 := x4.trans x6 k4
      have x26 : Ext W2 W6 := x3.trans x36 k3
      have x16 : Ext W1 W6 := x2.trans x26 k2
      have gup : Gr W6 (W6.up Dd (.lst (accV ++ [v]))) := Gr.up nF6 (fun xs z => by rw [hD6] at z; cases z) fun o u z => by rw [hD6] at z; cases z
      refine ⟨accV, hD5, by rw [racc.length, ← cap_line]; exact hcap, W6.up Dd (.lst (accV ++ [v])), acc ++ [y.fz], accV ++ [v], by rw [← eH]; rfl, x16.up hD, k6.up gup n6, upd_same, ?_, nF6, n6, ?_⟩
      · exact ((racc.mono (x26.gr k2)).append (.cons rv6 .nil)).mono gup
      · show lcL p vs c r σ (ds.drop (i + 1)) (acc ++ [y.fz]) W6.S = some (xs, S2)
        rw [eS, s5]
        exact ev
    · rename_i S1' hc
      refine ⟨W0, W3, σ1, false, S1', rfl, k3, f2, by rw [s3]; exact hc, fun W4 x4 k4 s4 => iteF ?_⟩
      have hD3 : W3.H Dd = some (.lst accV) := x3.st _ _ hDd nmu
      have n3 : Dd ∉ W3.mu := x3.muNot hDd nmu
      have x24 : Ext W2 W4 := x3.trans x4 k3
      refine ⟨W4, acc, accV, rfl, x2.trans x24 k2, k4, x4.st _ _ hD3 n3, racc.mono (x24.gr k2), fun f => ?_, x4.muNot hD3 n3, by rw [s4]; exact ev⟩
      rcases x24.fr _ f with f | f
      · exact nF f
      · rw [hDd] at f; cases f
    · cases ev
  · have ei : i = ds.length := by omega
    subst ei
    rw [List.drop_length] at ev
    cases ev
    refine .inl ⟨(jok W2 g2 k2 _).2 (Nat.le_refl _), h5 _ W2 (x1.trans x2 k1) k2 rfl ⟨Dd, accV, rfl, hDd, racc, nF, x1.back k1 hD, nmu⟩⟩
theorem se_lc {p : Pat} {vs : List Nat} {it : Sl → Sto → Option (List D × Sto)} {c : Sl → Sto → Option (Bool × Sto)} {r : RE} {e : Expr} (hp : ∀ i ∈ p.slots, i ∈ vs)
    (mk : PE X e (tLc (tI G it) (tP G p) (tT G c) (tE G r) vs)) : PE X e (tE G (lcR p vs it c r)) := mk.imp fun _ _ _ hq => lc_imp hp hq
/-- range(n) -/
theorem se_rng {ea : Expr} {ra : RE} {p pos : Pos} (tg : Expr) (hg : Gl X "range") (hm : X.mg "range" = none) (ha : PE X ea (tB G ra)) (ns : ∀ es, starEach (ea :: es) X.env = (false, eval ea X.env) :: starEach es X.env) : PI X tg (.Call (.Name "range" p) [ea] [] pos) (tI G (rngR ra)) := by
  refine (pi_range1 hg hm (pa_cons ha pa_nil (ns [])) (ns [])).imp fun τ H R hq => ?_
  obtain ⟨W0, W, σ, ds, S', rfl, h2, h3, h4, h5⟩ := hq
  unfold rngR at h4
  split at h4
  rotate_left
  · cases h4
  rename_i j S1 e1
  split at h4
  rotate_left
  · cases h4
  rename_i hj
  cases h4
  refine ⟨W0, W, σ, _, _, rfl, h2, h3, e1, fun v W1 x1 k1 s1 r1 => ⟨j, by rw [RV.inv_int r1], hj.1, hj.2, h5 _ W1 x1 k1 s1 ?_⟩⟩
  intro W' g' k' i
  refine ⟨fun d hd => ?_, fun hl => ?_⟩
  · rw [List.getElem?_map] at hd
    obtain ⟨n, hn, rfl⟩ := Option.map_eq_some_iff.mp hd
    have hn' := List.getElem?_eq_some_iff.mp hn
    obtain ⟨hlt, hv⟩ := hn'
    rw [List.length_range] at hlt
    rw [List.getElem_range] at hv
    refine ⟨hlt, fun x H' hy => ?_⟩
    obtain ⟨rfl, rfl⟩ := hy
    subst hv
    exact ⟨W', rfl, Ext.refl W', k', rfl, by rw [Int.zero_add]; exact .int _⟩
  · rw [List.length_map, List.length_range] at hl
    exact hl
end
end M3
/-! M3k: statements. -/
namespace M3
open PySem PySem.Spec PyProof.Rows L2

section
variable {G : Gm} {W0 W W' : Wd} {σ : Sl} {τ : L2.St}
theorem FrOk.drop (f : FrOk G W0 W σ τ) (i : Nat) : FrOk G W0 W (σ.set i none) τ := by
  have cut : ∀ {j : Nat} {x : T}, (σ.set i none)[j]? = some (some x) → σ[j]? = some (some x) := fun {j x} h => by
    by_cases e : i = j
    · subst e
      rw [List.getElem?_set] at h
      simp only [if_true] at h
      split at h <;> cases h
    · rw [List.getElem?_set_ne e] at h
      exact h
  exact ⟨by rw [List.length_set]; exact f.len, fun j x h => f.at' j x (cut h), fun j l xs ys a hjl h1 h2 h3 => f.sep j l xs ys a hjl (cut h1) (cut h2) h3⟩
theorem FrOk.chg (f : FrOk G W0 W σ τ) (g : Gr W W') (h : ∀ (j : Nat) xs (b : Addr), σ[j]? = some (some (.own xs)) → τ[j]? = some (some (.ref b)) → ¬ W.F b → W.H b ≠ none → b ∉ W.mu → W'.H b = W.H b ∧ ¬ W'.F b ∧ b ∉ W'.mu) : FrOk G W0 W' σ τ := by
  refine ⟨f.len, fun j x hx => ?_, f.sep⟩
  obtain ⟨v, h1, h2⟩ := f.at' j x hx
  refine ⟨v, h1, ?_⟩
  cases x with
  | v d => exact RV.mono g h2
  | own ds =>
    obtain ⟨a, vs, rfl, h4, h5, h6, h7, h8⟩ := h2
    obtain ⟨e1, e2, e3⟩ := h j ds a hx h1 h6 (by rw [h4]; exact fun z => nomatch z) h8
    exact ⟨a, vs, rfl, e1.trans h4, h5.mono g, e2, h7, e3⟩
theorem FrOk.own (f : FrOk G W0 W σ τ) {i : Nat} {xs : List D} (h : σ[i]? = some (some (.own xs))) : ∃ a vs, τ[i]? = some (some (.ref a)) ∧ W.H a = some (.lst vs) ∧ RVs G W vs xs ∧ ¬ W.F a ∧ W0.H a = none ∧ a ∉ W.mu ∧
    ∀ (j : Nat) ys (b : Addr), j ≠ i → σ[j]? = some (some (.own ys)) → τ[j]? = some (some (.ref b)) → b ≠ a := by
  obtain ⟨v, h1, a, vs, rfl, h2, h3, h4, h5, h6⟩ := f.at' i _ h
  exact ⟨a, vs, h1, h2, h3, h4, h5, h6, fun j ys b hj hy hb e => f.sep i j xs ys a (fun z => hj z.symm) h hy h1 (by rw [← e]; exact hb)⟩
/-- slot i holds something else at the same value -/
theorem FrOk.re {i : Nat} {x : T} {v : V} (f : FrOk G W0 W' (σ.set i none) τ) (hv : τ[i]? = some (some v)) (r : SlR G W0 W' x v) (n : ∀ xs, x = .own xs → ∀ (j : Nat) ys, j ≠ i → σ[j]? = some (some (.own ys)) → τ[j]? ≠ some (some v)) : FrOk G W0 W' (σ.set i (some x)) τ := by
  have h := f.set (i := i) (x := x) r fun xs e j ys hj hy => by
    rw [List.getElem?_set_ne (Ne.symm hj)] at hy
    exact n xs e j ys hj hy
  rw [List.set_set] at h
  have e : τ.set i (some v) = τ := by
    refine List.ext_getElem? fun j => ?_
    by_cases e : i = j
    · subst e
      rw [hv, List.getElem?_set_self (List.getElem?_eq_some_iff.mp hv).1]
    · rw [List.getElem?_set_ne e]
  rw [e] at h
  exact h
/-- an owned list changes -/
theorem FrOk.mut (f : FrOk G W0 W σ τ) (k : WOk G W) (x : Ext W0 W) {i : Nat} {xs ds : List D} {a : Addr} {vs : List V} (h : σ[i]? = some (some (.own xs))) (ha : τ[i]? = some (some (.ref a))) (r : RVs G W vs ds) :
    Ext W0 (W.up a (.lst vs)) ∧ Gr W (W.up a (.lst vs)) ∧ WOk G (W.up a (.lst vs)) ∧ FrOk G W0 (W.up a (.lst vs)) (σ.set i (some (.own ds))) τ := by
  obtain ⟨a', ws, h1, h2, h3, h4, h5, h6, h7⟩ := f.own h
  rw [ha] at h1; cases h1
  have g : Gr W (W.up a (.lst vs)) := Gr.up h4 (fun _ z => by rw [h2] at z; cases z) fun _ _ z => by rw [h2] at z; cases z
  have hn : ∀ (j : Nat) ys (b : Addr), j ≠ i → σ[j]? = some (some (.own ys)) → τ[j]? = some (some (.ref b)) → b ≠ a := h7
  refine ⟨x.up h5, g, k.up g h6, ?_⟩
  refine FrOk.re ((f.drop i).chg g fun j ys b hy hb h8 h9 h10 => ?_) ha ⟨a, vs, rfl, upd_same, r.mono g, h4, h5, h6⟩ fun ys _ j zs hj hz hb => hn j zs a hj hz hb rfl
  have hji : j ≠ i := fun e => by
    subst e
    rw [List.getElem?_set] at hy
    simp only [if_true] at hy
    split at hy <;> cases hy
  rw [List.getElem?_set_ne (Ne.symm hji)] at hy
  exact ⟨upd_ne (hn j ys b hji hy hb), h8, h10⟩
/-- an owned list is frozen -/
theorem FrOk.frz (f : FrOk G W0 W σ τ) (k : WOk G W) (x : Ext W0 W) {i : Nat} {xs : List D} (h : σ[i]? = some (some (.own xs))) :
    ∃ W', W'.H = W.H ∧ W'.S = W.S ∧ Ext W0 W' ∧ Gr W W' ∧ WOk G W' ∧ FrOk G W0 W' (σ.set i (some (.v (.lst xs)))) τ := by
  obtain ⟨a, ws, h1, h2, h3, h4, h5, h6, h7⟩ := f.own h
  refine ⟨W.frz a, rfl, rfl, x.frz h5, Gr.frz a, k.frz h6 (by rw [h2]; exact fun z => nomatch z), ?_⟩
  refine FrOk.re ((f.drop i).chg (Gr.frz a) fun j ys b hy hb h8 h9 h10 => ?_) h1 (show RV G (W.frz a) _ _ from .lst (.inl rfl) h2 (h3.mono (Gr.frz a))) fun ys e => nomatch e
  have hji : j ≠ i := fun e => by
    subst e
    rw [List.getElem?_set] at hy
    simp only [if_true] at hy
    split at hy <;> cases hy
  rw [List.getElem?_set_ne (Ne.symm hji)] at hy
  refine ⟨rfl, fun z => ?_, h10⟩
  rcases z with z | z
  · exact h7 j ys b hji hy hb z
  · exact h8 z
end

/-- what must hold at a statement's end -/
def EndOk (G : Gm) (W0 W' : Wd) (f : Fl) (σ' : Sl) (D : Ends) : Prop := match f with
  | .nx => ∀ τ', FrOk G W0 W' σ' τ' → D.nx τ' W'.H
  | .bk => ∀ τ', FrOk G W0 W' σ' τ' → D.bk τ' W'.H
  | .ct => ∀ τ', FrOk G W0 W' σ' τ' → D.ct τ' W'.H
  | .rt x => ∀ v, SlR G W0 W' x v → D.rt v W'.H
def tS (G : Gm) (r : RS) : TS := fun D τ H => ∃ W0 W σ f σ' S', W.H = H ∧ WOk G W ∧ FrOk G W0 W σ τ ∧ Ext W0 W ∧ r σ W.S = some (f, σ', S') ∧
  ∀ W', Ext W0 W' → Gr W W' → WOk G W' → W'.S = S' → EndOk G W0 W' f σ' D

section
variable {G : Gm} {X : Cx} {N : List Str} {sc : Scope} {k : Nat} {P : Pg}
theorem ss_nil : PSs X [] (tS G fun σ S => some (.nx, σ, S)) := by
  refine pss_nil.imp fun D τ H hq => ?_
  obtain ⟨W0, W, σ, f, σ', S', rfl, h2, h3, x0, h4, h5⟩ := hq
  cases h4
  exact h5 W x0 (Gr.refl W) h2 rfl τ h3
theorem ss_cons {st : Stmt} {rest : List Stmt} {a b : RS} (h1 : PS X st (tS G a)) (h2 : PSs X rest (tS G b)) : PSs X (st :: rest) (tS G (seqS a b)) := by
  refine (pss_cons h1 h2).imp fun D τ H hq => ?_
  obtain ⟨W0, W, σ, f, σ', S', rfl, k2, k3, x0, k4, k5⟩ := hq
  unfold seqS at k4
  split at k4
  · rename_i σ1 S1 e1
    refine ⟨W0, W, σ, .nx, σ1, S1, rfl, k2, k3, x0, e1, fun W1 x1 g1 k1 s1 => fun τ1 f1 => ?_⟩
    exact ⟨W0, W1, σ1, f, σ', S', rfl, k1, f1, x1, by rw [s1]; exact k4, fun W2 x2 g2 k2' s2 => k5 W2 x2 (g1.trans g2) k2' s2⟩
  · rename_i n
    refine ⟨W0, W, σ, f, σ', S', rfl, k2, k3, x0, k4, fun W1 x1 g1 k1 s1 => ?_⟩
    have q := k5 W1 x1 g1 k1 s1
    cases f with
    | nx => exact absurd k4 (n σ' S')
    | bk => exact q
    | ct => exact q
    | rt x => exact q
theorem ss_frz {i : Nat} {sts : List Stmt} {b : RS} (h : PSs X sts (tS G b)) : PSs X sts (tS G (seqS (frzS i) b)) := by
  refine h.imp fun D τ H hq => ?_
  obtain ⟨W0, W, σ, f, σ', S', rfl, k2, k3, x0, k4, k5⟩ := hq
  unfold seqS at k4
  have hfr : frzS i σ W.S = (match σ[i]? with
    | some (some x) => some (.nx, σ.set i (some (.v x.fz)), W.S)
    | _ => none) := rfl
  rw [hfr] at k4
  cases e : σ[i]? with
  | none => rw [e] at k4; cases k4
  | some o =>
    rw [e] at k4
    cases o with
    | none => cases k4
    | some x =>
      have k4' : b (σ.set i (some (.v x.fz))) W.S = some (f, σ', S') := k4
      cases x with
      | v d =>
        have es : σ.set i (some (.v d)) = σ := by
          refine List.ext_getElem? fun j => ?_
          by_cases ej : i = j
          · subst ej
            rw [e, List.getElem?_set_self (List.getElem?_eq_some_iff.mp e).1]
          · rw [List.getElem?_set_ne ej]
        exact ⟨W0, W, σ, f, σ', S', rfl, k2, k3, x0, by rw [← es]; exact k4', k5⟩
      | own xs =>
        obtain ⟨W1, eH, eS, x1, g1, k1, f1⟩ := k3.frz k2 x0 e
        exact ⟨W0, W1, σ.set i (some (.v (.lst xs))), f, σ', S', eH, k1, f1, x1, by rw [eS]; exact k4', fun W2 x2 g2 k2' s2 => k5 W2 x2 (g1.trans g2) k2' s2⟩
theorem s_never {st : Stmt} : PS X st (tS G fun _ _ => none) := by
  refine ps_never.imp fun D τ H hq => ?_
  obtain ⟨W0, W, σ, f, σ', S', rfl, k2, k3, x0, k4, k5⟩ := hq
  cases k4
theorem s_pass {pos : Pos} : PS X (.Pass pos) (tS G fun σ S => some (.nx, σ, S)) := by
  refine ps_pass.imp fun D τ H hq => ?_
  obtain ⟨W0, W, σ, f, σ', S', rfl, h2, h3, x0, h4, h5⟩ := hq
  cases h4
  exact h5 W x0 (Gr.refl W) h2 rfl τ h3
theorem s_brk {pos : Pos} : PS X (.Break pos) (tS G fun σ S => some (.bk, σ, S)) := by
  refine ps_break.imp fun D τ H hq => ?_
  obtain ⟨W0, W, σ, f, σ', S', rfl, h2, h3, x0, h4, h5⟩ := hq
  cases h4
  exact h5 W x0 (Gr.refl W) h2 rfl τ h3
theorem s_cnt {pos : Pos} : PS X (.Continue pos) (tS G fun σ S => some (.ct, σ, S)) := by
  refine ps_continue.imp fun D τ H hq => ?_
  obtain ⟨W0, W, σ, f, σ', S', rfl, h2, h3, x0, h4, h5⟩ := hq
  cases h4
  exact h5 W x0 (Gr.refl W) h2 rfl τ h3
theorem set_imp {i : Nat} {r : RE} {D : Ends} {τ : L2.St} {H : Hp} (hq : tS G (setS i r) D τ H) : tE G r τ H fun x H1 => D.nx (τ.set i (some x)) H1 := by
  obtain ⟨W0, W, σ, f, σ', S', rfl, k2, k3, x0, k4, k5⟩ := hq
  unfold setS at k4
  split at k4
  rotate_left
  · cases k4
  rename_i x S1 e1
  cases k4
  refine ⟨W0, W, σ, x, _, rfl, k2, k3, e1, fun v W1 x1 k1 s1 r1 => ?_⟩
  obtain ⟨W2, eH, eS, x2, g2, k2', rv⟩ := r1.freeze x1 k1
  rw [← eH]
  exact k5 W2 (x0.trans x2 k2) (x2.gr k2) k2' (eS.trans s1) _ ((k3.mono x2 k2).setV rv)
theorem setO_imp {i : Nat} {r : RE} {D : Ends} {τ : L2.St} {H : Hp} (hq : tS G (setOS i r) D τ H) : tE G r τ H fun x H1 => D.nx (τ.set i (some x)) H1 := by
  obtain ⟨W0, W, σ, f, σ', S', rfl, k2, k3, x0, k4, k5⟩ := hq
  unfold setOS at k4
  split at k4
  rotate_left
  · cases k4
  rename_i x S1 e1
  cases k4
  refine ⟨W0, W, σ, x, _, rfl, k2, k3, e1, fun v W1 x1 k1 s1 r1 => ?_⟩
  refine k5 W1 (x0.trans x1 k2) (x1.gr k2) k1 s1 _ ((k3.mono x1 k2).set (r1.back x0 k2) fun xs e j ys hj hy hv => ?_)
  subst e
  obtain ⟨a, vs, rfl, _, _, _, h5, _⟩ := r1
  obtain ⟨b, ws, q1, q2, _⟩ := k3.own hy
  rw [hv] at q1; cases q1
  rw [q2] at h5; cases h5
theorem s_set {i : Nat} {x : Str} {e : Expr} {r : RE} {pos pos' : Pos} (xo : XOk G X N sc k) (h : StNm X i x) (he : PE X e (tE G r)) (hs : swapsWith e (some (.Name x pos')) pos.line X.env = pure false) : PS X (.Assign [.Name x pos'] e pos) (tS G (setS i r)) :=
  (ps_set (i := i) xo.nd h.1 h.2.1 he hs h.2.2).imp fun _ _ _ hq => set_imp hq
theorem s_setO {i : Nat} {x : Str} {e : Expr} {r : RE} {pos pos' : Pos} (xo : XOk G X N sc k) (h : StNm X i x) (he : PE X e (tE G r)) (hs : swapsWith e (some (.Name x pos')) pos.line X.env = pure false) : PS X (.Assign [.Name x pos'] e pos) (tS G (setOS i r)) :=
  (ps_set (i := i) xo.nd h.1 h.2.1 he hs h.2.2).imp fun _ _ _ hq => setO_imp hq
theorem s_setT {is : List Nat} {tg e : Expr} {r : RE} {pos : Pos} (hg : PG X tg (tP G (.tup is))) (he : PE X e (tE G r)) (hs : swapsWithSole [tg] e pos.line X.env = pure false) (hw : swappedStores [tg] e X.env = pure none)
    (h1 : (assignEach [tg] X.env).map (·.2) = [assign tg X.env]) : PS X (.Assign [tg] e pos) (tS G (setTS is r)) := by
  refine (ps_asg he hg hs hw h1).imp fun D τ H hq => ?_
  obtain ⟨W0, W, σ, f, σ', S', rfl, k2, k3, x0, k4, k5⟩ := hq
  unfold setTS at k4
  split at k4
  rotate_left
  · cases k4
  rename_i ds S1 e1
  obtain ⟨σ1, e2, e3⟩ := Option.map_eq_some_iff.mp k4
  cases e3
  refine ⟨W0, W, σ, _, _, rfl, k2, k3, e1, fun v W1 x1 k1 s1 r1 => ?_⟩
  exact ⟨W0, W1, σ, .tup ds, _, rfl, k1, k3.mono x1 k2, r1, e2, fun τ' f' _ => k5 W1 (x0.trans x1 k2) (x1.gr k2) k1 s1 τ' f'⟩
theorem s_setIx {i : Nat} {eo ei e : Expr} {ri r : RE} {pos p2 : Pos} (ho : PE X eo (tVar i)) (hi : PE X ei (tB G ri)) (he : PE X e (tE G r))
    (mk : ∀ {te to ti : TE}, PE X e te → PE X eo to → PE X ei ti → PS X (.Assign [.Subscript eo ei p2] e pos) (tAsg te (gSub to ti rSetL))) : PS X (.Assign [.Subscript eo ei p2] e pos) (tS G (setIS i ri r)) := by
  refine (mk he ho hi).imp fun D τ H hq => ?_
  obtain ⟨W0, W, σ, f, σ', S', rfl, k2, k3, x0, k4, k5⟩ := hq
  unfold setIS at k4
  split at k4
  rotate_left
  · cases k4
  rename_i x S1 e1
  split at k4
  rotate_left
  · cases k4
  rename_i j S2 e2
  refine ⟨W0, W, σ, x, S1, rfl, k2, k3, e1, fun v W1 x1 k1 s1 r1 => ?_⟩
  obtain ⟨W2, eH, eS, x2, g2, k2', rv⟩ := r1.freeze x1 k1
  rw [← eH]
  have f2 := k3.mono x2 k2
  have x02 := x0.trans x2 k2
  unfold setIxS at k4
  split at k4
  · rename_i r hr
    split at k4
    rotate_left
    · cases k4
    rename_i xs hxs
    obtain ⟨n, e3, e4⟩ := Option.map_eq_some_iff.mp k4
    cases e4
    obtain ⟨u, q1, q2⟩ := f2.at' i _ hr
    have q2' : RV G W2 u (.ref r) := q2
    cases q2' with
    | ref hm =>
      rename_i a
      refine ⟨.ref a, q1, W0, W2, σ, _, S2, rfl, k2', f2, by rw [eS, s1]; exact e2, fun u3 W3 x3 k3' s3 r3 => ?_⟩
      have hm3 : W3.mu[r]? = some a := by
        obtain ⟨m, em, _⟩ := x3.mu
        rw [em, List.getElem?_append_left (List.getElem?_eq_some_iff.mp hm).1]
        exact hm
      obtain ⟨vs, ds, h1, h2, h3, h4⟩ := k3'.at' r a hm3
      rw [s3, hxs] at h1; cases h1
      have hlen : ixN vs.length j = some n := by rw [h3.length]; exact e3
      refine ⟨a, vs, j, n, rfl, RV.inv_int r3, h2, hlen, ?_⟩
      have rv3 := rv.mono (x3.gr k2')
      have ha_mu : a ∈ W3.mu := List.mem_of_getElem? hm3
      have gup : Gr W3 (W3.up a (.lst (vs.set n v))) := Gr.up h4 (fun _ z => by rw [h2] at z; cases z) fun _ _ z => by rw [h2] at z; cases z
      let W4 : Wd := { W3 with H := upd W3.H a (.lst (vs.set n v)), S := W3.S.set r (xs.set n x.fz) }
      have g4 : Gr W3 W4 := ⟨gup.fs, gup.st, gup.tp, gup.fz, gup.mu⟩
      have x03 := x02.trans x3 k2'
      have x04 : Ext W0 W4 := by
        refine ⟨x03.fs, fun b o hb nb => ?_, x03.fr, x03.mu⟩
        have hb3 := x03.st b o hb nb
        refine (upd_ne fun z => ?_).trans hb3
        subst z
        obtain ⟨m, em, fm⟩ := x03.mu
        rw [em] at ha_mu
        rcases List.mem_append.mp ha_mu with z | z
        · exact nb z
        · rw [fm _ z] at hb; cases hb
      have k4' : WOk G W4 := by
        refine ⟨?_, k3'.nd, fun r' b hb => ?_, fun b fb => ?_⟩
        · show W3.mu.length = (W3.S.set r _).length
          rw [List.length_set, k3'.len]
        · by_cases er : r = r'
          · subst er
            have hb' : W3.mu[r]? = some b := hb
            rw [hm3] at hb'; cases hb'
            refine ⟨vs.set n v, xs.set n x.fz, ?_, upd_same, (h3.set rv3 n).mono g4, h4⟩
            show (W3.S.set r _)[r]? = _
            rw [List.getElem?_set_self]
            rw [← k3'.len]
            exact (List.getElem?_eq_some_iff.mp hm3).1
          · obtain ⟨vs', ds', q1, q2, q3, q4⟩ := k3'.at' r' b hb
            refine ⟨vs', ds', ?_, ?_, q3.mono g4, q4⟩
            · show (W3.S.set r _)[r']? = _
              rw [List.getElem?_set_ne er]; exact q1
            · refine (upd_ne fun z => ?_).trans q2
              subst z
              have hb' : W3.mu[r']? = some b := hb
              obtain ⟨l1, v1⟩ := List.getElem?_eq_some_iff.mp hm3
              obtain ⟨l2, v2⟩ := List.getElem?_eq_some_iff.mp hb'
              exact er ((List.getElem_inj k3'.nd).mp (v1.trans v2.symm))
        · show upd W3.H a _ b ≠ none
          unfold upd
          split
          · exact fun z => nomatch z
          · exact k3'.fk b fb
      have f3 := f2.mono x3 k2'
      refine k5 W4 x04 ((x2.gr k2).trans ((x3.gr k2').trans g4)) k4' ?_ τ ?_
      · show W3.S.set r _ = _
        rw [s3]
      · refine f3.chg g4 fun j' ys b hy hb h8 h9 h10 => ⟨upd_ne fun z => ?_, h8, h10⟩
        exact h10 (by rw [z]; exact ha_mu)
  · rename_i xs hr
    obtain ⟨n, e3, e4⟩ := Option.map_eq_some_iff.mp k4
    cases e4
    obtain ⟨a, ws, q1, q2, q3, q4, q5, q6, q7⟩ := f2.own hr
    refine ⟨.ref a, q1, W0, W2, σ, _, _, rfl, k2', f2, by rw [eS, s1]; exact e2, fun u3 W3 x3 k3' s3 r3 => ?_⟩
    have h2 : W3.H a = some (.lst ws) := x3.st _ _ q2 q6
    have h3 := q3.mono (x3.gr k2')
    refine ⟨a, ws, j, n, rfl, RV.inv_int r3, h2, by rw [h3.length]; exact e3, ?_⟩
    have f3 := f2.mono x3 k2'
    obtain ⟨x4, g4, k4', f4⟩ := f3.mut k3' (x02.trans x3 k2') hr q1 (h3.set (rv.mono (x3.gr k2')) n)
    exact k5 _ x4 ((x2.gr k2).trans ((x3.gr k2').trans g4)) k4' s3 τ f4
  · cases k4
theorem s_aug {i : Nat} {x : Str} {o : B2} {e : Expr} {r : RE} {pos pos' : Pos} (xo : XOk G X N sc k) (h : StNm X i x) (he : PE X e (tB G r)) : PS X (.AugAssign (.Name x pos') o.op e pos) (tS G (augS i o r)) := by
  refine (ps_aug (i := i) xo.nd h.1 h.2.1 he (opR_aug (G := G) (X := X) o) h.2.2).imp fun D τ H hq => ?_
  obtain ⟨W0, W, σ, f, σ', S', rfl, k2, k3, x0, k4, k5⟩ := hq
  unfold augS varE at k4
  split at k4
  rotate_left
  · cases k4
  rename_i xv _ hv
  split at hv
  rotate_left
  · cases hv
  rename_i d hd
  cases hv
  split at k4
  rotate_left
  · cases k4
  rename_i y S1 e1
  obtain ⟨z, e3, e4⟩ := Option.map_eq_some_iff.mp k4
  cases e4
  obtain ⟨u, q1, q2⟩ := k3.at' i _ hd
  refine ⟨u, q1, W0, W, σ, y, _, rfl, k2, k3, e1, fun v W1 x1 k1 s1 r1 => ?_⟩
  refine ⟨W1, .v d, y, z, rfl, k1, SlR.b (Wp := W) (RV.mono (x1.gr k2) q2), r1, e3, fun w W2 x2 k2' s2 r2 => ?_⟩
  obtain ⟨n, rfl⟩ : ∃ n, z = .v (.int n) := by
    unfold augT at e3
    split at e3 <;> first | (cases e3; exact ⟨_, rfl⟩) | cases e3
  have x02 := x1.trans x2 k1
  exact k5 W2 (x0.trans x02 k2) (x02.gr k2) k2' (s2.trans s1) _ ((k3.mono x02 k2).setV r2)
end
end M3
/-! M3l: more statements: append, extend, return, if, while, for. -/
namespace M3
open PySem PySem.Spec PyProof.Rows L2
section
variable {G : Gm} {X : Cx} {N : List Str} {sc : Scope} {k : Nat} {P : Pg}
/-- x.append(e), x.extend(e): what the list is behind it -/
theorem app_end {i : Nat} {xs ds : List D} {W0 W W2 : Wd} {σ : Sl} {τ : L2.St} {D : Ends} {S' : Sto} {a : Addr} {vs ws : List V} (h2 : WOk G W) (x0 : Ext W0 W) (f : FrOk G W0 W σ τ) (x2 : Ext W W2) (k2 : WOk G W2) (hi : σ[i]? = some (some (.own xs))) (ha : τ[i]? = some (some (.ref a)))
    (hv : RVs G W2 vs xs) (hw : RVs G W2 ws ds) (s2 : W2.S = S') (h5 : ∀ W', Ext W0 W' → Gr W W' → WOk G W' → W'.S = S' → EndOk G W0 W' .nx (σ.set i (some (.own (xs ++ ds)))) D) : D.nx τ (upd W2.H a (.lst (vs ++ ws))) := by
  have f2 := f.mono x2 h2
  obtain ⟨x4, g4, k4, f4⟩ := f2.mut k2 (x0.trans x2 h2) hi ha (hv.append hw)
  exact h5 (W2.up a (.lst (vs ++ ws))) x4 ((x2.gr h2).trans g4) k4 s2 τ f4
theorem few_of {e : Expr} {env : Env} {pos : Pos} (ns : ∀ es, starEach (e :: es) env = (false, eval e env) :: starEach es env) :
    ((backTo pos (starEach [e] env)).all (fun x => !x.1) && (backToKw pos (keywordEach [] env)).all (fun x => x.1.isSome) && decide ([e].length + ([] : List Keyword).length + (if ([] : List Keyword).isEmpty then 0 else 1) < 30)) = true := by
  rw [ns []]
  rfl
theorem s_app {i : Nat} {x : Str} {e : Expr} {r : RE} {p apos pos pos2 : Pos} (hx : PE X (.Name x p) (tVar i)) (he : PE X e (tE G r)) (hline : (apos.endLine == pos.line) = true) (ns : ∀ es env, starEach (e :: es) env = (false, eval e env) :: starEach es env) :
    PS X (.Expr (.Call (.Attribute (.Name x p) "append" apos) [e] [] pos) pos2) (tS G (app1S i r)) := by
  refine (ps_expr (pe_bm PySem.F.plainAttrs_list PySem.F.slot_list_append PySem.F.type_list_append mt_append hx (pa_cons he pa_nil (ns [] _)) rfl (few_of fun es => ns es _) hline (ns [] _) rfl)).imp fun D τ H hq => ?_
  obtain ⟨W0, W, σ, f, σ', S', rfl, k2, k3, x0, k4, k5⟩ := hq
  unfold app1S at k4
  split at k4
  rotate_left
  · cases k4
  rename_i y S1 e1
  unfold appS at k4
  split at k4
  rotate_left
  · cases k4
  rename_i xs hxs
  split at k4
  rotate_left
  · cases k4
  rename_i hz
  cases k4
  obtain ⟨a, vs, q1, q2, q3, q4, q5, q6, q7⟩ := k3.own hxs
  refine ⟨.ref a, q1, .inl ⟨rfl, vs, SqL.of q2⟩, W0, W, σ, y, _, rfl, k2, k3, e1, fun v W1 x1 k1 s1 r1 => ?_⟩
  obtain ⟨W2, eH, eS, x2, g2, k2', rv⟩ := r1.freeze x1 k1
  rw [← eH]
  have h2 : W2.H a = some (.lst vs) := x2.st _ _ q2 q6
  refine ⟨a, vs, v, rfl, rfl, h2, ?_, app_end k2 x0 k3 x2 k2' hxs q1 (q3.mono (x2.gr k2)) (.cons rv .nil) (eS.trans s1) k5⟩
  rw [q3.length, ← cap_line]
  have : [y.fz].length = 1 := rfl
  omega
theorem s_ext {i : Nat} {x : Str} {e : Expr} {r : RE} {p apos pos pos2 : Pos} (hx : PE X (.Name x p) (tVar i)) (he : PE X e (tE G r)) (hline : (apos.endLine == pos.line) = true) (ns : ∀ es env, starEach (e :: es) env = (false, eval e env) :: starEach es env) :
    PS X (.Expr (.Call (.Attribute (.Name x p) "extend" apos) [e] [] pos) pos2) (tS G (extS i r)) := by
  refine (ps_expr (pe_bm PySem.F.plainAttrs_list PySem.F.slot_list_extend PySem.F.type_list_extend mt_extend hx (pa_cons he pa_nil (ns [] _)) rfl (few_of fun es => ns es _) hline (ns [] _) rfl)).imp fun D τ H hq => ?_
  obtain ⟨W0, W, σ, f, σ', S', rfl, k2, k3, x0, k4, k5⟩ := hq
  unfold extS at k4
  split at k4
  rotate_left
  · cases k4
  rename_i y S1 e1
  split at k4
  rotate_left
  · cases k4
  rename_i ds hds
  unfold appS at k4
  split at k4
  rotate_left
  · cases k4
  rename_i xs hxs
  split at k4
  rotate_left
  · cases k4
  rename_i hz
  cases k4
  obtain ⟨a, vs, q1, q2, q3, q4, q5, q6, q7⟩ := k3.own hxs
  refine ⟨.ref a, q1, .inl ⟨rfl, vs, SqL.of q2⟩, W0, W, σ, y, _, rfl, k2, k3, e1, fun v W1 x1 k1 s1 r1 => ?_⟩
  obtain ⟨b, ws, rfl, hb, hws, _⟩ := r1.b.lst k1 hds
  have h2 : W1.H a = some (.lst vs) := x1.st _ _ q2 q6
  refine ⟨a, b, vs, ws, rfl, rfl, h2, hb, ?_, app_end k2 x0 k3 x1 k1 hxs q1 (q3.mono (x1.gr k2)) hws s1 k5⟩
  rw [q3.length, hws.length, ← cap_line]
  exact hz
theorem s_ex {e : Expr} {r : RE} {pos : Pos} (he : PE X e (tE G r)) (hs : swapsWith e none pos.line X.env = pure false) : PS X (.Expr e pos) (tS G (exS r)) := by
  refine (ps_expr he hs).imp fun D τ H hq => ?_
  obtain ⟨W0, W, σ, f, σ', S', rfl, k2, k3, x0, k4, k5⟩ := hq
  unfold exS at k4
  split at k4
  rotate_left
  · cases k4
  rename_i y S1 e1
  cases k4
  exact ⟨W0, W, σ, y, _, rfl, k2, k3, e1, fun v W1 x1 k1 s1 r1 => k5 W1 (x0.trans x1 k2) (x1.gr k2) k1 s1 τ (k3.mono x1 k2)⟩
theorem s_ret {e : Expr} {r : RE} {pos : Pos} (he : PE X e (tR G r)) : PS X (.Return (some e) pos) (tS G (retS r)) := by
  refine (ps_ret he).imp fun D τ H hq => ?_
  obtain ⟨W0, W, σ, f, σ', S', rfl, k2, k3, x0, k4, k5⟩ := hq
  unfold retS at k4
  split at k4
  rotate_left
  · cases k4
  rename_i y S1 e1
  cases k4
  exact ⟨W0, W, σ, y, _, rfl, k2, k3, x0, e1, fun v W1 x1 k1 s1 r1 => k5 W1 (x0.trans x1 k2) (x1.gr k2) k1 s1 v r1⟩
theorem s_retN {pos : Pos} : PS X (.Return none pos) (tS G fun σ S => some (.rt (.v .non), σ, S)) := by
  refine ps_retN.imp fun D τ H hq => ?_
  obtain ⟨W0, W, σ, f, σ', S', rfl, k2, k3, x0, k4, k5⟩ := hq
  cases k4
  exact k5 W x0 (Gr.refl W) k2 rfl .non .non
theorem s_if {c : Expr} {a b : List Stmt} {rc : Sl → Sto → Option (Bool × Sto)} {ra rb : RS} {pos : Pos} (hc : PT X c (tT G rc)) (ha : PSs X a (tS G ra)) (hb : PSs X b (tS G rb)) : PS X (.If c a b pos) (tS G (ifS rc ra rb)) := by
  refine (ps_if hc ha hb).imp fun D τ H hq => ?_
  obtain ⟨W0, W, σ, f, σ', S', rfl, k2, k3, x0, k4, k5⟩ := hq
  unfold ifS at k4
  split at k4
  · rename_i S1 e1
    exact ⟨W0, W, σ, _, _, rfl, k2, k3, e1, fun W1 x1 k1 s1 => iteT ⟨W0, W1, σ, f, σ', S', rfl, k1, k3.mono x1 k2, x0.trans x1 k2, by rw [s1]; exact k4, fun W2 x2 g2 k2' s2 => k5 W2 x2 ((x1.gr k2).trans g2) k2' s2⟩⟩
  · rename_i S1 e1
    exact ⟨W0, W, σ, _, _, rfl, k2, k3, e1, fun W1 x1 k1 s1 => iteF ⟨W0, W1, σ, f, σ', S', rfl, k1, k3.mono x1 k2, x0.trans x1 k2, by rw [s1]; exact k4, fun W2 x2 g2 k2' s2 => k5 W2 x2 ((x1.gr k2).trans g2) k2' s2⟩⟩
  · cases k4
theorem s_whl {c : Expr} {b : List Stmt} {rc : Sl → Sto → Option (Bool × Sto)} {rb : RS} {n : Nat} {pos : Pos} (xo : XOk G X N sc k) (hc : PT X c (tT G rc)) (hb : PSs X b (tS G rb)) : PS X (.While c b [] pos) (tS G (whileL rc rb n)) := by
  refine (ps_while (by rw [xo.xe]; exact PassesOwn.never) hc hb).imp fun D τ H hq => ?_
  obtain ⟨W0, W, σ, f, σ', S', rfl, k2, k3, x0, k4, k5⟩ := hq
  refine ⟨fun m τ H => ∃ W1 σ1, W1.H = H ∧ Gr W W1 ∧ WOk G W1 ∧ FrOk G W0 W1 σ1 τ ∧ Ext W0 W1 ∧ whileL rc rb m σ1 W1.S = some (f, σ', S'), ⟨n, W, σ, rfl, Gr.refl W, k2, k3, x0, k4⟩, ?_⟩
  rintro m τ1 H ⟨W1, σ1, rfl, g1, k1, f1, x1, ev⟩
  cases m with
  | zero => cases ev
  | succ m =>
    unfold whileL at ev
    split at ev
    · rename_i S1 e1
      refine ⟨W0, W1, σ1, true, S1, rfl, k1, f1, e1, fun W2 x2 k2' s2 => iteT ?_⟩
      have g2 := g1.trans (x2.gr k1)
      have x02 := x1.trans x2 k1
      refine ⟨fun τ' H' => ∃ W3 σ3, W3.H = H' ∧ Gr W W3 ∧ WOk G W3 ∧ FrOk G W0 W3 σ3 τ' ∧ Ext W0 W3 ∧ whileL rc rb m σ3 W3.S = some (f, σ', S'), fun τ' H' h => ⟨m, Nat.lt_succ_self m, h⟩, ?_⟩
      split at ev
      · rename_i σ2 S2 e2
        exact ⟨W0, W2, σ1, .nx, σ2, S2, rfl, k2', f1.mono x2 k1, x02, by rw [s2]; exact e2, fun W3 x3 g3 k3' s3 τ' f' => ⟨W3, σ2, rfl, g2.trans g3, k3', f', x3, by rw [s3]; exact ev⟩⟩
      · rename_i σ2 S2 e2
        exact ⟨W0, W2, σ1, .ct, σ2, S2, rfl, k2', f1.mono x2 k1, x02, by rw [s2]; exact e2, fun W3 x3 g3 k3' s3 τ' f' => ⟨W3, σ2, rfl, g2.trans g3, k3', f', x3, by rw [s3]; exact ev⟩⟩
      · rename_i σ2 S2 e2
        cases ev
        exact ⟨W0, W2, σ1, .bk, _, _, rfl, k2', f1.mono x2 k1, x02, by rw [s2]; exact e2, fun W3 x3 g3 k3' s3 τ' f' => k5 W3 x3 (g2.trans g3) k3' s3 τ' f'⟩
      · rename_i x σ2 S2 e2
        cases ev
        exact ⟨W0, W2, σ1, .rt x, _, _, rfl, k2', f1.mono x2 k1, x02, by rw [s2]; exact e2, fun W3 x3 g3 k3' s3 v r => k5 W3 x3 (g2.trans g3) k3' s3 v r⟩
      · cases ev
    · rename_i S1 e1
      cases ev
      exact ⟨W0, W1, _, false, _, rfl, k1, f1, e1, fun W2 x2 k2' s2 => iteF (k5 W2 (x1.trans x2 k1) (g1.trans (x2.gr k1)) k2' s2 τ1 (f1.mono x2 k1))⟩
    · cases ev
theorem s_for {p : Pat} {tg iter : Expr} {b : List Stmt} {it : Sl → Sto → Option (List D × Sto)} {rb : RS} {pos : Pos} (xo : XOk G X N sc k) (hi : PI X tg iter (tI G it)) (hg : PG X tg (tP G p)) (hb : PSs X b (tS G rb)) (hs : ∀ x, foldedSetIterable iter X.env x = pure x) : PS X (.For tg iter b [] pos) (tS G (forS p it rb)) := by
  refine (ps_for (by rw [xo.xe]; exact PassesOwn.never) xo.calm hi hg hb hs).imp fun D τ H hq => ?_
  obtain ⟨W0, W, σ, f, σ', S', rfl, k2, k3, x0, k4, k5⟩ := hq
  unfold forS at k4
  split at k4
  rotate_left
  · cases k4
  rename_i ds S1 e1
  refine ⟨W0, W, σ, ds, S1, rfl, k2, k3, e1, fun J W1 x1 k1 s1 jok => ?_⟩
  have x01 := x0.trans x1 k2
  refine ⟨fun i m τ H => m = ds.length - i ∧ i ≤ ds.length ∧ ∃ W2 σ2, W2.H = H ∧ Gr W1 W2 ∧ WOk G W2 ∧ FrOk G W0 W2 σ2 τ ∧ Ext W0 W2 ∧ forL p rb (ds.drop i) σ2 W2.S = some (f, σ', S'), ⟨ds.length, by omega, Nat.zero_le _, W1, σ, rfl, Gr.refl W1, k1, k3.mono x1 k2, x01, by rw [List.drop_zero, s1]; exact k4⟩, ?_⟩
  rintro i m τ2 H ⟨hm, hi, W2, σ2, rfl, g2, k2', f2, x2, ev⟩
  by_cases hlt : i < ds.length
  · obtain ⟨d, hd, hdr⟩ := drop_at hlt
    rw [hdr] at ev
    unfold forL at ev
    split at ev
    rotate_left
    · cases ev
    rename_i σ3 hput
    obtain ⟨hgo, hyl⟩ := (jok W2 g2 k2' i).1 d hd
    refine .inr ⟨hgo, fun τ' H' => ∃ W3 σ3, W3.H = H' ∧ Gr W1 W3 ∧ WOk G W3 ∧ FrOk G W0 W3 σ3 τ' ∧ Ext W0 W3 ∧ forL p rb (ds.drop (i + 1)) σ3 W3.S = some (f, σ', S'), fun τ' H' h => ⟨m - 1, by omega, by omega, hlt, h⟩, fun x H' hy => ?_⟩
    obtain ⟨W3, rfl, x3, k3', s3, rv⟩ := hyl x H' hy
    have g3 := g2.trans (x3.gr k2')
    have x03 := x2.trans x3 k2'
    refine ⟨W0, W3, σ2, d, σ3, rfl, k3', f2.mono x3 k2', rv, hput, fun τ' f' _ => ?_⟩
    split at ev
    · rename_i σ4 S4 e4
      exact ⟨W0, W3, σ3, .nx, σ4, S4, rfl, k3', f', x03, by rw [s3]; exact e4, fun W4 x4 g4 k4' s4 τ4 f4 => ⟨W4, σ4, rfl, g3.trans g4, k4', f4, x4, by rw [s4]; exact ev⟩⟩
    · rename_i σ4 S4 e4
      exact ⟨W0, W3, σ3, .ct, σ4, S4, rfl, k3', f', x03, by rw [s3]; exact e4, fun W4 x4 g4 k4' s4 τ4 f4 => ⟨W4, σ4, rfl, g3.trans g4, k4', f4, x4, by rw [s4]; exact ev⟩⟩
    · rename_i σ4 S4 e4
      cases ev
      exact ⟨W0, W3, σ3, .bk, _, _, rfl, k3', f', x03, by rw [s3]; exact e4, fun W4 x4 g4 k4' s4 τ4 f4 => k5 W4 x4 ((x1.gr k2).trans (g3.trans g4)) k4' s4 τ4 f4⟩
    · rename_i y σ4 S4 e4
      cases ev
      exact ⟨W0, W3, σ3, .rt y, _, _, rfl, k3', f', x03, by rw [s3]; exact e4, fun W4 x4 g4 k4' s4 v r => k5 W4 x4 ((x1.gr k2).trans (g3.trans g4)) k4' s4 v r⟩
    · cases ev
  · have ei : i = ds.length := by omega
    subst ei
    rw [List.drop_length] at ev
    cases ev
    exact .inl ⟨(jok W2 g2 k2' _).2 (Nat.le_refl _), k5 W2 x2 ((x1.gr k2).trans g2) k2' rfl τ2 f2⟩
end
end M3
/-! M3m: the check of the compact syntax against the text. -/
namespace M3
open PySem PySem.Spec PyProof.Rows L2

structure Ck where
  N : List Str
  sc : Scope
  fc : Str → Bool
  fn : List Str
  gn : List Str
def visB (sc : Scope) (x : Str) : Bool := match sc.names.lookup x with
  | some .local => true
  | some .cell => true
  | some .free => true
  | _ => false
def glB (sc : Scope) (x : Str) : Bool := match sc.names.lookup x with
  | some .globalImplicit => true
  | _ => false
def okNm (x : Str) : Bool := !(x == ("__debug__" : Str)) && !(x == ("__classdict__" : Str))
def Ck.var (c : Ck) (i : Nat) (x : Str) : Bool := decide (c.N[i]? = some x) && (visB c.sc x && okNm x)
def Ck.st (c : Ck) (i : Nat) (x : Str) : Bool := decide (c.N[i]? = some x) && (match c.sc.names.lookup x with
  | some .local => true
  | some .cell => c.fc x
  | _ => false)
def Ck.glob (c : Ck) (l : List Str) (i : Nat) (x : Str) : Bool := decide (l[i]? = some x) && (glB c.sc x && okNm x)
def P1.name : P1 → Str
  | .abs => "abs" | .int => "int" | .len => "len" | .list => "list" | .tuple => "tuple" | .str => "str" | .repr => "repr" | .all => "all"
def notStarE : Expr → Bool
  | .Starred .. => false
  | _ => true
def isSliceE : Expr → Bool
  | .Slice .. => true
  | _ => false
def isSetE : Expr → Bool
  | .Set .. => true
  | _ => false
def isCallE : Expr → Bool
  | .Call .. => true
  | _ => false
def isTupE : Expr → Bool
  | .Tuple .. => true
  | _ => false
def isCompE : Expr → Bool
  | .ListComp .. => true
  | .SetComp .. => true
  | .DictComp .. => true
  | _ => false
def isConstE : Expr → Bool
  | .Constant .. => true
  | _ => false

abbrev CkE := Expr → Bool
def cInt (i : Int) : CkE
  | .Constant (.int j) _ _ => decide (i = j)
  | _ => false
def cStr (s : List Nat) : CkE
  | .Constant (.str x) _ _ => decide (x = ⟨s.toArray⟩)
  | _ => false
def cBl (b : Bool) : CkE
  | .Constant (.bool c) _ _ => decide (b = c)
  | _ => false
def cNon : CkE
  | .Constant .none _ _ => true
  | _ => false
def cName (f : Str → Bool) : CkE
  | .Name x _ => f x
  | _ => false
def cBin (o : B2) (f g : CkE) : CkE
  | .BinOp l op r _ => decide (op = o.op) && (f l && g r)
  | _ => false
def cUn (o : UnaryOp) (f : CkE) : CkE
  | .UnaryOp op e _ => decide (op = o) && f e
  | _ => false
def cBool (o : BoolOp) (f g : CkE) : CkE
  | .BoolOp op (a :: b :: r) p => decide (op = o) && (f a && (match r with
    | [] => g b
    | c :: r => g (.BoolOp op (b :: c :: r) p)))
  | _ => false
def cCmp (o : C2) (f g : CkE) : CkE
  | .Compare l [op] [r] _ => decide (op = o.op) && (!isSetE r && (f l && g r))
  | _ => false
def cCond (f g h : CkE) : CkE
  | .IfExp c a b _ => f c && (g a && h b)
  | _ => false
def cCall (nm : Str → Bool) (f : List Expr → Bool) : CkE
  | .Call (.Name x _) es [] _ => nm x && f es
  | _ => false
def cCall1 (nm : Str → Bool) (f : CkE) : CkE
  | .Call (.Name x _) [e] [] _ => nm x && f e
  | _ => false
def cCall2 (nm : Str → Bool) (f g : CkE) : CkE
  | .Call (.Name x _) [a, b] [] _ => nm x && (f a && g b)
  | _ => false
def cMeth1 (m : Str) (f g : CkE) : CkE
  | .Call (.Attribute o at' apos) [e] [] pos => decide (at' = m) && ((apos.endLine == pos.line) && (f o && g e))
  | _ => false
def cAddRepl (s : List Nat) (y : Nat) (f : CkE) : CkE
  | .BinOp (.Constant (.str x) _ _) .Add (.Call (.Attribute o at' apos) [.Constant (.str a) _ _, .Constant (.str b) _ _] [] pos) _ =>
    decide (x = ⟨s.toArray⟩) && (decide (at' = ("replace" : Str)) && (decide (a = ⟨#[y]⟩) && (decide (b = ⟨#[y, y]⟩) && ((apos.endLine == pos.line) && (!isCallE o && f o)))))
  | _ => false
def cIdx (f g : CkE) : CkE
  | .Subscript v s _ => !isSliceE s && (f v && g s)
  | _ => false
def cOpt (no : Bool) (f : CkE) : Option Expr → Bool
  | none => no
  | some e => !no && f e
def cSl (f : CkE) (l h : Option Expr → Bool) : CkE
  | .Subscript v (.Slice a b none _) _ => f v && (l a && h b)
  | _ => false
def cTup (f : List Expr → Bool) : CkE
  | .Tuple es _ _ => f es
  | _ => false
def cLst (f : List Expr → Bool) : CkE
  | .List es _ => f es
  | _ => false
def cPats (c : Ck) : List Nat → List Expr → Bool
  | [], [] => true
  | i :: is, .Name x _ :: es => c.st i x && cPats c is es
  | _, _ => false
def cPat (c : Ck) : Pat → CkE
  | .one i, .Name x _ => c.st i x
  | .tup is, .Tuple es _ _ => cPats c is es
  | _, _ => false
def ownOf (c : Ck) (vs : List Nat) : List (Str × Nat) := vs.map fun i => (c.N.getD i Str.empty, i)
def Ck.blk (c : Ck) (scope : Scope) : Ck := { c with sc := relS scope c.sc, fc := fun x => scope.names.lookup x == some .cell }
def cLc (c : Ck) (vs : List Nat) (p : Pat) (no : Bool) (fi : CkE) (ft fe : Ck → CkE) : CkE
  | .ListComp elt [⟨tg, iter, ifs, a⟩] scope _ => decide (a = 0) && (blkC c.N c.sc scope (ownOf c vs) && (decide (∀ i ∈ p.slots, i ∈ vs) && (cPat (c.blk scope) p tg && (!isSetE iter && (fi iter && ((match ifs with
      | [] => no
      | [t] => !no && ft (c.blk scope) t
      | _ => false) && fe (c.blk scope) elt))))))
  | _ => false
def CE.isNo : CE → Bool
  | .no => true
  | _ => false
def CE.isStrC : CE → Bool
  | .str _ => true
  | _ => false

mutual
def chkE : CE → Ck → CkE
  | .no, _ => fun _ => false
  | .int i, _ => cInt i
  | .str s, _ => cStr s
  | .bl b, _ => cBl b
  | .non, _ => cNon
  | .var i, c => cName (c.var i)
  | .glob i, c => cName (c.glob c.gn i)
  | .fnv f, c => cName (c.glob c.fn f)
  | .bin o a b, c => cBin o (chkE a c) (chkE b c)
  | .neg a, c => cUn .USub (chkE a c)
  | .not a, c => cUn .Not (chkE a c)
  | .and a b, c => cBool .And (chkE a c) (chkE b c)
  | .or a b, c => cBool .Or (chkE a c) (chkE b c)
  | .cmp o a b, c => cCmp o (chkE a c) (chkE b c)
  | .cond t a b, c => cCond (chkE t c) (chkE a c) (chkE b c)
  | .call f es, c => cCall (c.glob c.fn f) (chkEs es c)
  | .callv i es, c => cCall (c.var i) (fun l => !l.isEmpty && chkEs es c l)
  | .p1 p a, c => cCall1 (fun x => decide (x = p.name) && glB c.sc x) (chkE a c)
  | .max2 a b, c => cCall2 (fun x => decide (x = ("max" : Str)) && glB c.sc x) (chkE a c) (chkE b c)
  | .isStr a, c => cCall2 (fun x => decide (x = ("isinstance" : Str)) && glB c.sc x) (chkE a c) (cName fun x => decide (x = ("str" : Str)) && glB c.sc x)
  | .join s a, c => cMeth1 "join" (fun o => isConstE o && chkE s c o) (chkE a c)
  | .addRepl s y a, c => cAddRepl s y (chkE a c)
  | .idx a i, c => cIdx (chkE a c) (chkE i c)
  | .sl a lo hi, c => cSl (chkE a c) (cOpt lo.isNo (chkE lo c)) (cOpt hi.isNo (chkE hi c))
  | .tup es, c => cTup (chkEs es c)
  | .lst es, c => cLst (chkEs es c)
  | .tape es, c => cLst (chkEs es c)
  | .lc vs p it t e, c => cLc c vs p t.isNo (chkE it c) (chkE t) (chkE e)
  | .iRng a, c => cCall1 (fun x => decide (x = ("range" : Str)) && glB c.sc x) (chkE a c)
def chkEs : List CE → Ck → List Expr → Bool
  | [], _ => fun l => l.isEmpty
  | a :: as, c => fun l => match l with
    | e :: es => notStarE e && (chkE a c e && chkEs as c es)
    | [] => false
end

/-! ### statements -/
/-- does «name = [..]» go by the rule for comprehensions that are stored at once -/
def swB (c : Ck) (x : Str) (line : Nat) : Expr → Bool
  | .ListComp _ _ scope p => decide (c.sc.names.lookup x = some .local) && ((line == p.line) && !(scope.names.any fun (n, k) => n == x && (k == .local || k == .cell)))
  | _ => false
def noOther : Expr → Bool
  | .SetComp .. => false
  | .DictComp .. => false
  | _ => true
def CE.isLc : CE → Bool
  | .lc .. => true
  | _ => false
abbrev CkS := Stmt → Bool
def cSet (c : Ck) (i : Nat) (lc : Bool) (f : CkE) : CkS
  | .Assign [.Name x p] v pos => c.st i x && (noOther v && ((!swB c x p.line v || lc) && f v))
  | _ => false
def cSetT (c : Ck) (is : List Nat) (f : CkE) : CkS
  | .Assign [.Tuple es _ _] v _ => cPats c is es && (!isTupE v && (noOther v && f v))
  | _ => false
def cSetIx (c : Ck) (i : Nat) (g f : CkE) : CkS
  | .Assign [.Subscript (.Name x _) s _] v _ => c.var i x && (!isSliceE s && (noOther v && (g s && f v)))
  | _ => false
def cAug (c : Ck) (i : Nat) (o : B2) (f : CkE) : CkS
  | .AugAssign (.Name x _) op v _ => c.st i x && (decide (op = o.op) && f v)
  | _ => false
def cApp (c : Ck) (m : Str) (i : Nat) (f : CkE) : CkS
  | .Expr (.Call (.Attribute (.Name x _) at' apos) [e] [] pos) _ => c.var i x && (decide (at' = m) && ((apos.endLine == pos.line) && (notStarE e && f e)))
  | _ => false
def cEx (f : CkE) : CkS
  | .Expr e _ => !isCompE e && f e
  | _ => false
def cRet (f : CkE) : CkS
  | .Return (some e) _ => f e
  | _ => false
def cRetN : CkS
  | .Return none _ => true
  | _ => false
def cIf (f : CkE) (g h : List Stmt → Bool) : CkS
  | .If c a b _ => f c && (g a && h b)
  | _ => false
def cWhl (f : CkE) (g : List Stmt → Bool) : CkS
  | .While c a [] _ => f c && g a
  | _ => false
def cFor (c : Ck) (p : Pat) (f : CkE) (g : List Stmt → Bool) : CkS
  | .For tg it b [] _ => cPat c p tg && (!isSetE it && (f it && g b))
  | _ => false
def cBrk : CkS
  | .Break _ => true
  | _ => false
def cCnt : CkS
  | .Continue _ => true
  | _ => false
def cPass : CkS
  | .Pass _ => true
  | _ => false
def CS.frz? : CS → Option Nat
  | .frz i => some i
  | _ => none
mutual
def chkS : CS → Ck → CkS
  | .set i e, c => cSet c i e.isLc (chkE e c)
  | .setO i e, c => cSet c i e.isLc (chkE e c)
  | .setT is e, c => cSetT c is (chkE e c)
  | .setIx i ix e, c => cSetIx c i (chkE ix c) (chkE e c)
  | .aug i o e, c => cAug c i o (chkE e c)
  | .app i e, c => cApp c "append" i (chkE e c)
  | .ext i e, c => cApp c "extend" i (chkE e c)
  | .ex e, c => cEx (chkE e c)
  | .ret e, c => cRet (chkE e c)
  | .retN, _ => cRetN
  | .ifs t a b, c => cIf (chkE t c) (chkSs a c) (chkSs b c)
  | .whl t a, c => cWhl (chkE t c) (chkSs a c)
  | .for1 p it b, c => cFor c p (chkE it c) (chkSs b c)
  | .brk, _ => cBrk
  | .cnt, _ => cCnt
  | .pass, _ => cPass
  | .never, _ => fun _ => true
  | .frz _, _ => fun _ => false
def chkSs : List CS → Ck → List Stmt → Bool
  | [], _ => fun l => l.isEmpty
  | a :: as, c => fun l => match a.frz? with
    | some _ => chkSs as c l
    | none => match l with
      | s :: ss => chkS a c s && chkSs as c ss
      | [] => false
end
end M3
/-! M3n: what is checked is sound: expressions. -/
namespace M3
open PySem PySem.Spec PyProof.Rows L2

def blts : List Str := ["abs", "int", "len", "list", "tuple", "str", "repr", "all", "max", "isinstance", "range"]
structure Mf (G : Gm) (P : Pg) (fn gn : List Str) (k : Nat) : Prop where
  fns : Fns G P fn k
  con : ∀ (i : Nat) (x : Str), gn[i]? = some x → ∃ v u, G.mg x = some u ∧ L2.RelV v u ∧ ∀ W, RV G W v (P.glob i)
  blt : ∀ x ∈ blts, G.mg x = none
structure Xk (G : Gm) (X : Cx) (c : Ck) (k : Nat) : Prop where
  xo : XOk G X c.N c.sc k
  fc : ∀ x, c.fc x = true → X.fn x = true
section
variable {G : Gm} {X : Cx} {k : Nat} {P : Pg} {c : Ck}
theorem gl_of (x : Xk G X c k) {n : Str} (h : glB c.sc n = true) : Gl X n := by
  unfold glB at h
  show X.env.scope.names.lookup n = some .globalImplicit
  rw [x.xo.sc]
  split at h
  · assumption
  · cases h
theorem vis_of (x : Xk G X c k) {n : Str} (h : visB c.sc n = true) : Vis X.env.scope n := by
  unfold visB at h
  unfold Vis
  rw [x.xo.sc]
  split at h
  · exact .inl (by assumption)
  · exact .inr (.inl (by assumption))
  · exact .inr (.inr (by assumption))
  · cases h
theorem nm_of {n : Str} (h : okNm n = true) : (n == ("__debug__" : Str)) = false ∧ (n == ("__classdict__" : Str)) = false := by
  unfold okNm at h
  simpa using h
theorem var_of (x : Xk G X c k) {i : Nat} {n : Str} {p : Pos} (h : c.var i n = true) : PE X (.Name n p) (tVar i) := by
  unfold Ck.var at h
  rw [Bool.and_eq_true, Bool.and_eq_true, decide_eq_true_eq] at h
  exact pe_var (by rw [x.xo.N]; exact h.1) (vis_of x h.2.1) (nm_of h.2.2).1 (nm_of h.2.2).2
theorem st_of (x : Xk G X c k) {i : Nat} {n : Str} (h : c.st i n = true) : StNm X i n := by
  unfold Ck.st at h
  rw [Bool.and_eq_true, decide_eq_true_eq] at h
  refine ⟨by rw [x.xo.N]; exact h.1, ?_⟩
  have h2 := h.2
  unfold L2.Loc
  rw [x.xo.sc]
  split at h2
  · rename_i e
    exact ⟨.inl e, .inr e⟩
  · rename_i e
    exact ⟨.inr e, .inl (x.fc n h2)⟩
  · cases h2
theorem glob_of (x : Xk G X c k) {l : List Str} {i : Nat} {n : Str} (h : c.glob l i n = true) : l[i]? = some n ∧ Gl X n ∧ (n == ("__debug__" : Str)) = false := by
  unfold Ck.glob at h
  rw [Bool.and_eq_true, Bool.and_eq_true, decide_eq_true_eq] at h
  exact ⟨h.1, gl_of x h.2.1, (nm_of h.2.2).1⟩
theorem ns_of {e : Expr} (h : notStarE e = true) : ∀ es env, starEach (e :: es) env = (false, eval e env) :: starEach es env := by
  intro es env
  cases e <;> first | rfl | cases h
theorem pix_of {e : Expr} (h : isSliceE e = false) : PlainIx e := by
  intro o i
  cases e <;> first | rfl | cases h
theorem base_of {e : Expr} {m : Str} {env : Env} (h : isCallE e = false) : attributeBase e m env (eval e env) = eval e env := by
  cases e <;> first | rfl | cases h
theorem fold_of {e : Expr} {env : Env} (h : isSetE e = false) : ∀ x, foldedSetIterable e env x = pure x := by
  intro x
  cases e <;> first | rfl | cases h
theorem mark_of {e : Expr} {op : CmpOp} (h : isSetE e = false) : behindInMarks op e = false := by
  cases e <;> first | rfl | cases h
theorem ncall_of {e : Expr} (h : isConstE e = true) : isCallE e = false := by
  cases e <;> first | rfl | cases h
/-- nothing comes of it -/
theorem pe_no {e : Expr} : PE X e (tE G fun _ _ => none) := ⟨fun _ _ _ _ _ _ ⟨_, _, _, _, _, _, _, _, h, _⟩ => nomatch h⟩
theorem pt_no {e : Expr} : PT X e (tT G fun _ _ => none) := ⟨fun _ _ _ _ _ _ ⟨_, _, _, _, _, _, _, _, h, _⟩ => nomatch h⟩
theorem pi_no {tg e : Expr} : PI X tg e (tI G fun _ _ => none) := ⟨fun _ _ _ _ _ _ ⟨_, _, _, _, _, _, _, _, h, _⟩ => nomatch h⟩

theorem sk_name (x : Xk G X c k) {i : Nat} {n : Str} {p : Pos} (h : c.var i n = true) : SOk G X (.Name n p) ⟨varE i, varB i, truthOf (varB i), itemsR (varE i), false⟩ :=
  have v : PE X (.Name n p) (tVar i) := var_of x h
  ⟨se_varB v, se_varR v, se_varE v, truth_of x.xo (se_varB v) fun _ => rfl, items_of x.xo (se_varE v), fun _ _ => rfl, rfl⟩
theorem sk_const (x : Xk G X c k) {e : Expr} {v : V} {d : D} (h : PE X e (tC v)) (r : ∀ W, RV G W v d) (he : ∀ whole, isTrue e X.env whole = (do let v ← whole; standAt e.pos; holding [v] (truthy v))) (ns : ∀ es env, starEach (e :: es) env = (false, eval e env) :: starEach es env) :
    SOk G X e (Sm.of fun _ S => some (.v d, S)) := SOk.of x.xo (se_const h r) he ns
theorem pw_of_pt {op : BoolOp} {es : List Expr} {p : Pos} {t : TT} (h : PT X (.BoolOp op es p) t) : PW X (.BoolOp op es p) t := ⟨fun _ pins s τ H Q I hq => h.run pins s τ H Q I hq⟩
theorem sk_bool {o : BoolOp} {f g : CkE} {ma mb : Sm} {e : Expr} (R : RE → RE → RE) (T' : (Sl → Sto → Option (Bool × Sto)) → (Sl → Sto → Option (Bool × Sto)) → (Sl → Sto → Option (Bool × Sto)))
    (h : cBool o f g e = true) (fa : ∀ e, f e = true → SOk G X e ma) (ga : ∀ e, g e = true → SOk G X e mb)
    (one : ∀ {a : Expr} {p : Pos} {t : TT}, PT X a t → PW X (.BoolOp o [a] p) t)
    (mkE : ∀ {a b : Expr} {r : List Expr} {p : Pos} {ra rb : RE}, PE X a (tE G ra) → PE X (.BoolOp o (b :: r) p) (tE G rb) → PE X (.BoolOp o (a :: b :: r) p) (tE G (R ra rb)))
    (mkT : ∀ {a b : Expr} {r : List Expr} {p : Pos} {ra rb : Sl → Sto → Option (Bool × Sto)}, PT X a (tT G ra) → PW X (.BoolOp o (b :: r) p) (tT G rb) → PW X (.BoolOp o (a :: b :: r) p) (tT G (T' ra rb))) :
    SOk G X e ⟨R ma.e mb.e, R ma.e mb.e, T' ma.t mb.t, fun _ _ => none, false⟩ := by
  unfold cBool at h
  split at h
  rotate_left
  · cases h
  rename_i op a b r p
  rw [Bool.and_eq_true, Bool.and_eq_true, decide_eq_true_eq] at h
  obtain ⟨rfl, ha, hb⟩ := h
  have A := fa a ha
  have B : PE X (.BoolOp op (b :: r) p) (tE G mb.e) ∧ PW X (.BoolOp op (b :: r) p) (tT G mb.t) := by
    cases r with
    | nil =>
      have B := ga b hb
      exact ⟨pe_one B.e, one B.t⟩
    | cons d r =>
      have B := ga _ hb
      exact ⟨B.e, pw_of_pt B.t⟩
  have E := mkE A.e B.1
  exact ⟨E.toB, E.toR, E, (mkT A.t B.2).pt, fun _ => pi_no, fun _ _ => rfl, rfl⟩
end
theorem blk_xk {G : Gm} {X : Cx} {k : Nat} {c : Ck} (x : Xk G X c k) (scope : Scope) (s : Shared) (H : Hp) (C : Addr) (cl : List (Str × Addr)) (fp : List Addr) : Xk G (X.blk s H scope (compEnvC scope cl C X.env) fp) (c.blk scope) k := by
  refine ⟨⟨x.xo.prog, x.xo.w, x.xo.K, x.xo.mg, x.xo.base, x.xo.N, ?_, x.xo.calm, x.xo.nd, x.xo.rm, x.xo.gd, rfl⟩, fun _ h => h⟩
  show relS scope X.env.scope = relS scope c.sc
  rw [x.xo.sc]
theorem pats_of {G : Gm} {X : Cx} {k : Nat} {c : Ck} (x : Xk G X c k) : ∀ (is : List Nat) (es : List Expr), cPats c is es = true → PGs X es (tPs G is) ∧ (assignEach es X.env).length = is.length ∧ (assignEach es X.env).findIdx? (·.1) = none
  | [], [], _ => ⟨sgs_nil, rfl, rfl⟩
  | i :: is, .Name n p :: es, h => by
    have h : (c.st i n && cPats c is es) = true := h
    rw [Bool.and_eq_true] at h
    obtain ⟨h1, h2, h3⟩ := pats_of x is es h.2
    refine ⟨sgs_cons x.xo (st_of x h.1) h1 rfl, congrArg (· + 1) h2, ?_⟩
    show (((false, _) :: assignEach es X.env).findIdx? (·.1)) = none
    rw [List.findIdx?_cons, h3]
    rfl
  | [], _ :: _, h => by cases h
  | i :: is, e :: es, h => by
    cases e <;> first | (cases h; done) | skip
    rename_i n p
    have h : (c.st i n && cPats c is es) = true := h
    rw [Bool.and_eq_true] at h
    obtain ⟨h1, h2, h3⟩ := pats_of x is es h.2
    refine ⟨sgs_cons x.xo (st_of x h.1) h1 rfl, congrArg (· + 1) h2, ?_⟩
    show (((false, _) :: assignEach es X.env).findIdx? (·.1)) = none
    rw [List.findIdx?_cons, h3]
    rfl
  | _ :: _, [], h => by cases h
theorem pat_of {G : Gm} {X : Cx} {k : Nat} {c : Ck} (x : Xk G X c k) {p : Pat} {e : Expr} (h : cPat c p e = true) : PG X e (tP G p) := by
  unfold cPat at h
  split at h
  · exact sg_one x.xo (st_of x h)
  · obtain ⟨h1, h2, h3⟩ := pats_of x _ _ h
    exact sg_tup x.xo h1 h2 h3
  · cases h

theorem tests_of {G : Gm} {X : Cx} {k : Nat} {P : Pg} {c : Ck} {t : CE} {ifs : List Expr} (st : ∀ ex, chkE t c ex = true → ∀ X, Xk G X c k → SOk G X ex (sem (P.cf k) t)) (x : Xk G X c k)
    (h : (match ifs with
      | [] => t.isNo
      | [a] => !t.isNo && chkE t c a
      | _ => false) = true) : PTs X ifs (tT G (testsR (sem (P.cf k) t))) := by
  split at h
  · cases t <;> first | (cases h; done) | skip
    refine ⟨fun pins s τ H Q I hq => pts_nil.run pins s τ H Q I ?_⟩
    obtain ⟨W0, W, σ, z, S', rfl, h2, h3, h4, h5⟩ := hq
    cases h4
    exact h5 W (Ext.refl W) h2 rfl
  · rw [Bool.and_eq_true] at h
    have s := st _ h.2 X x
    have e : testsR (sem (P.cf k) t) = (sem (P.cf k) t).t := by
      unfold testsR
      rw [s.no]
      rfl
    rw [e]
    exact pts_one s.t
  · cases h
/-- a comprehension, from its parts -/
theorem sndLc {G : Gm} {k : Nat} {P : Pg} {fn gn : List Str} (M : Mf G P fn gn k) (vs : List Nat) (p : Pat) (it t e : CE) (c : Ck) (hf : c.fn = fn) (hg : c.gn = gn) (ex : Expr) (h : chkE (.lc vs p it t e) c ex = true) (X : Cx) (x : Xk G X c k)
    (si : ∀ ex, chkE it c ex = true → SOk G X ex (sem (P.cf k) it)) (st : ∀ c : Ck, c.fn = fn → c.gn = gn → ∀ ex, chkE t c ex = true → ∀ X, Xk G X c k → SOk G X ex (sem (P.cf k) t)) (se : ∀ c : Ck, c.fn = fn → c.gn = gn → ∀ ex, chkE e c ex = true → ∀ X, Xk G X c k → SOk G X ex (sem (P.cf k) e)) :
    (∀ i ∈ p.slots, i ∈ vs) ∧ PE X ex (tLc (tI G (sem (P.cf k) it).i) (tP G p) (tT G (testsR (sem (P.cf k) t))) (tE G (sem (P.cf k) e).e) vs) ∧ (∀ es env, starEach (ex :: es) env = (false, eval ex env) :: starEach es env) ∧
      ∀ whole, isTrue ex X.env whole = (do let v ← whole; standAt ex.pos; holding [v] (truthy v)) := by
  have h : cLc c vs p t.isNo (chkE it c) (chkE t) (chkE e) ex = true := h
  unfold cLc at h
  split at h
  rotate_left
  · cases h
  rename_i elt tg iter ifs a scope pos h0
  simp only [Bool.and_eq_true, decide_eq_true_eq] at h
  obtain ⟨rfl, hb, hsl, hpt, hst, hit, htt, hel⟩ := h
  have hst : isSetE iter = false := by simpa using hst
  have hv : (ownOf c vs).map (·.2) = vs := by
    unfold ownOf
    rw [List.map_map]
    exact List.map_id' vs
  have q := pe_lc (elt := elt) (tg := tg) (iter := iter) (ifs := ifs) (scope := scope) (own := ownOf c vs) (pos := pos) (wi := tI G (sem (P.cf k) it).i) (g := tP G p) (tt := tT G (testsR (sem (P.cf k) t))) (te := tE G (sem (P.cf k) e).e) x.xo.calm x.xo.nd ((si _ hit).i tg) (by rw [x.xo.N, x.xo.sc]; exact blkOk_by hb)
    (fun s H C cl fp => pat_of (blk_xk x scope s H C cl fp) hpt) (fun s H C cl fp => tests_of (st (c.blk scope) hf hg) (blk_xk x scope s H C cl fp) htt) (fun s H C cl fp => (se (c.blk scope) hf hg _ hel _ (blk_xk x scope s H C cl fp)).e) (fold_of hst)
  rw [hv] at q
  exact ⟨hsl, q, fun _ _ => rfl, fun _ => rfl⟩
mutual
theorem snd {G : Gm} {k : Nat} {P : Pg} {fn gn : List Str} (M : Mf G P fn gn k) : ∀ (e : CE) (c : Ck), c.fn = fn → c.gn = gn → ∀ ex : Expr, chkE e c ex = true → ∀ X, Xk G X c k → SOk G X ex (sem (P.cf k) e)
  | .no, c, hf, hg, ex, h, X, x => by cases h
  | .int i, c, hf, hg, ex, h, X, x => by
    have h : cInt i ex = true := h
    unfold cInt at h
    split at h
    rotate_left
    · cases h
    cases of_decide_eq_true h
    exact sk_const x pe_int (fun _ => .int i) (fun _ => rfl) (fun _ _ => rfl)
  | .str s, c, hf, hg, ex, h, X, x => by
    have h : cStr s ex = true := h
    unfold cStr at h
    split at h
    rotate_left
    · cases h
    cases of_decide_eq_true h
    exact sk_const x pe_str (fun _ => .str s) (fun _ => rfl) (fun _ _ => rfl)
  | .bl b, c, hf, hg, ex, h, X, x => by
    have h : cBl b ex = true := h
    unfold cBl at h
    split at h
    rotate_left
    · cases h
    cases of_decide_eq_true h
    exact sk_const x pe_bl (fun _ => .bl b) (fun _ => rfl) (fun _ _ => rfl)
  | .non, c, hf, hg, ex, h, X, x => by
    have h : cNon ex = true := h
    unfold cNon at h
    split at h
    rotate_left
    · cases h
    exact sk_const x pe_non (fun _ => .non) (fun _ => rfl) (fun _ _ => rfl)
  | .var i, c, hf, hg, ex, h, X, x => by
    have h : cName (c.var i) ex = true := h
    unfold cName at h
    split at h
    rotate_left
    · cases h
    exact sk_name x h
  | .glob i, c, hf, hg, ex, h, X, x => by
    have h : cName (c.glob c.gn i) ex = true := h
    unfold cName at h
    split at h
    rotate_left
    · cases h
    obtain ⟨h1, h2, h3⟩ := glob_of x h
    rw [hg] at h1
    obtain ⟨v, u, h4, h5, h6⟩ := M.con i _ h1
    exact sk_const x (pe_glob h2 (by rw [x.xo.mg]; exact h4) h5 h3) h6 (fun _ => rfl) (fun _ _ => rfl)
  | .fnv f, c, hf, hg, ex, h, X, x => by
    have h : cName (c.glob c.fn f) ex = true := h
    unfold cName at h
    split at h
    rotate_left
    · cases h
    obtain ⟨h1, h2, h3⟩ := glob_of x h
    rw [hf] at h1
    obtain ⟨a, F⟩ := M.fns.at' f _ h1
    exact sk_const x (pe_glob (v := .ref a) h2 (by rw [x.xo.mg]; exact F.mg) rfl h3) (fun _ => .fn F.fa) (fun _ => rfl) (fun _ _ => rfl)
  | .bin o a b, c, hf, hg, ex, h, X, x => by
    have h : cBin o (chkE a c) (chkE b c) ex = true := h
    unfold cBin at h
    split at h
    rotate_left
    · cases h
    rw [Bool.and_eq_true, Bool.and_eq_true, decide_eq_true_eq] at h
    obtain ⟨rfl, ha, hb⟩ := h
    have A := snd M a c hf hg _ ha X x
    have B := snd M b c hf hg _ hb X x
    exact SOk.of x.xo (se_bin2 A.b B.b (fun p q => pe_op (opR_B2 x.xo.K o) p q) fun _ _ _ _ h => h) (fun _ => rfl) (fun _ _ => rfl)
  | .neg a, c, hf, hg, ex, h, X, x => by
    have h : cUn .USub (chkE a c) ex = true := h
    unfold cUn at h
    split at h
    rotate_left
    · cases h
    rw [Bool.and_eq_true, decide_eq_true_eq] at h
    obtain ⟨rfl, ha⟩ := h
    exact SOk.of x.xo (se_neg (snd M a c hf hg _ ha X x).b) (fun _ => rfl) (fun _ _ => rfl)
  | .not a, c, hf, hg, ex, h, X, x => by
    have h : cUn .Not (chkE a c) ex = true := h
    unfold cUn at h
    split at h
    rotate_left
    · cases h
    rw [Bool.and_eq_true, decide_eq_true_eq] at h
    obtain ⟨rfl, ha⟩ := h
    have A := snd M a c hf hg _ ha X x
    rename_i e1 pos1
    have E : PE X (.UnaryOp .Not e1 pos1) (tE G (notR (sem (P.cf k) a).e)) := se_not A.e
    exact ⟨E.toB, E.toR, E, st_not A.t, fun _ => pi_no, fun _ _ => rfl, rfl⟩
  | .and a b, c, hf, hg, ex, h, X, x => by
    have h : cBool .And (chkE a c) (chkE b c) ex = true := h
    exact sk_bool andR andT h (fun e he => snd M a c hf hg e he X x) (fun e he => snd M b c hf hg e he X x) (fun h => pw_and1 h) (fun p q => se_and p q) (fun p q => st_and p q)
  | .or a b, c, hf, hg, ex, h, X, x => by
    have h : cBool .Or (chkE a c) (chkE b c) ex = true := h
    exact sk_bool orR orT h (fun e he => snd M a c hf hg e he X x) (fun e he => snd M b c hf hg e he X x) (fun h => pw_or1 h) (fun p q => se_or p q) (fun p q => st_or p q)
  | .cmp o a b, c, hf, hg, ex, h, X, x => by
    have h : cCmp o (chkE a c) (chkE b c) ex = true := h
    unfold cCmp at h
    split at h
    rotate_left
    · cases h
    rw [Bool.and_eq_true, Bool.and_eq_true, Bool.and_eq_true, decide_eq_true_eq, Bool.not_eq_true'] at h
    obtain ⟨rfl, hs, ha, hb⟩ := h
    have A := snd M a c hf hg _ ha X x
    have B := snd M b c hf hg _ hb X x
    have R := opR_C2 (X := X) (G := G) (by have := x.xo.hu; omega) x.xo.K x.xo.w o
    rename_i l1 r1 pos1
    have E : PE X (.Compare l1 [o.op] [r1] pos1) (tE G (bind2 (sem (P.cf k) a).b (sem (P.cf k) b).b (lift2b o.run))) := se_cmp2 A.b B.b (fun p q => pe_cmpR R p q (mark_of hs)) (fun _ _ _ _ h => h)
    exact ⟨E.toB, E.toR, E, se_cmp2T A.b B.b (fun p q => pt_cmpR R p q (mark_of hs)) fun _ _ _ _ h => h, fun _ => pi_no, fun _ _ => rfl, rfl⟩
  | .cond t a b, c, hf, hg, ex, h, X, x => by
    have h : cCond (chkE t c) (chkE a c) (chkE b c) ex = true := h
    unfold cCond at h
    split at h
    rotate_left
    · cases h
    rw [Bool.and_eq_true, Bool.and_eq_true] at h
    obtain ⟨ht, ha, hb⟩ := h
    rename_i c1 a1 b1 pos1
    have E : PE X (.IfExp c1 a1 b1 pos1) (tE G (condR (sem (P.cf k) t).t (sem (P.cf k) a).e (sem (P.cf k) b).e)) := se_cond (snd M t c hf hg _ ht X x).t (snd M a c hf hg _ ha X x).e (snd M b c hf hg _ hb X x).e
    exact ⟨E.toB, E.toR, E, pt_no, items_of x.xo E, fun _ _ => rfl, rfl⟩
  | .call f es, c, hf, hg, ex, h, X, x => by
    have h : cCall (c.glob c.fn f) (chkEs es c) ex = true := h
    unfold cCall at h
    split at h
    rotate_left
    · cases h
    rename_i nm args q1 q2
    rw [Bool.and_eq_true] at h
    obtain ⟨h1, h2, h3⟩ := glob_of x h.1
    rw [hf] at h1
    obtain ⟨a, F⟩ := M.fns.at' f _ h1
    obtain ⟨A, ns⟩ := sndA M es c hf hg _ h.2 X x
    cases args with
    | nil =>
      cases es with
      | nil => exact SOk.of x.xo (se_call0 x.xo F h2 h3) (fun _ => rfl) (fun _ _ => rfl)
      | cons _ _ => cases h.2
    | cons e r => exact SOk.of x.xo (se_call x.xo F h2 A h3 (ns e r rfl).1 (ns e r rfl).2) (fun _ => rfl) (fun _ _ => rfl)
  | .callv i es, c, hf, hg, ex, h, X, x => by
    have h : cCall (c.var i) (fun l => !l.isEmpty && chkEs es c l) ex = true := h
    unfold cCall at h
    split at h
    rotate_left
    · cases h
    rename_i nm args q1 q2
    rw [Bool.and_eq_true, Bool.and_eq_true] at h
    obtain ⟨h1, h2, h3⟩ := h
    obtain ⟨A, ns⟩ := sndA M es c hf hg _ h3 X x
    cases args with
    | nil => cases h2
    | cons e r => exact SOk.of x.xo (se_callv x.xo M.fns (var_of x h1) A (ns e r rfl).1 (ns e r rfl).2) (fun _ => rfl) (fun _ _ => rfl)
  | .p1 p a, c, hf, hg, ex, h, X, x => by
    have h : cCall1 (fun x => decide (x = p.name) && glB c.sc x) (chkE a c) ex = true := h
    unfold cCall1 at h
    split at h
    rotate_left
    · cases h
    rw [Bool.and_eq_true, Bool.and_eq_true, decide_eq_true_eq] at h
    obtain ⟨⟨rfl, hgl⟩, ha⟩ := h
    have A := snd M a c hf hg _ ha X x
    have gl := gl_of x hgl
    have mg : ∀ n ∈ blts, X.mg n = none := fun n hn => by rw [x.xo.mg]; exact M.blt n hn
    have ns := A.ns [] X.env
    refine SOk.of x.xo ?_ (fun _ => rfl) (fun _ _ => rfl)
    cases p with
    | abs => exact se_r1 A.b (fun q => pe_callB cR_abs gl (mg _ (by decide +kernel)) PyProof.Rows.boot_abs q (by decide +kernel) (by decide +kernel) ns rfl) ns fun _ _ _ h => h
    | int => exact se_r1 A.b (fun q => pe_callTy cR_int gl (mg _ (by decide +kernel)) PyProof.Rows.boot_int q (by decide +kernel) (by decide +kernel) ns rfl) ns fun _ _ _ h => h
    | len => exact se_r1 A.b (fun q => pe_callB (cR_len x.xo.K) gl (mg _ (by decide +kernel)) PySem.boot_len q (by decide +kernel) (by decide +kernel) ns rfl) ns fun _ _ _ h => h
    | list => exact se_r1 A.b (fun q => pe_callTy (cR_list x.xo.K) gl (mg _ (by decide +kernel)) PyProof.Rows.boot_list q (by decide +kernel) (by decide +kernel) ns rfl) ns fun _ _ _ h => h
    | tuple => exact se_r1 A.b (fun q => pe_callTy (cR_tuple x.xo.K) gl (mg _ (by decide +kernel)) PyProof.Rows.boot_tuple q (by decide +kernel) (by decide +kernel) ns rfl) ns fun _ _ _ h => h
    | str => exact se_r1 A.b (fun q => pe_callTy cR_str gl (mg _ (by decide +kernel)) PyProof.Rows.boot_str q (by decide +kernel) (by decide +kernel) ns rfl) ns fun _ _ _ h => h
    | repr => exact se_r1 A.b (fun q => pe_callB (cR_repr x.xo.hu x.xo.gd x.xo.K) gl (mg _ (by decide +kernel)) PyProof.Rows.boot_repr q (by decide +kernel) (by decide +kernel) ns rfl) ns fun _ _ _ h => h
    | all => exact se_r1 A.b (fun q => pe_callB (cR_all x.xo.calm) gl (mg _ (by decide +kernel)) PyProof.Rows.boot_all q (by decide +kernel) (by decide +kernel) ns rfl) ns fun _ _ _ h => h
  | .max2 a b, c, hf, hg, ex, h, X, x => by
    have h : cCall2 (fun x => decide (x = ("max" : Str)) && glB c.sc x) (chkE a c) (chkE b c) ex = true := h
    unfold cCall2 at h
    split at h
    rotate_left
    · cases h
    rw [Bool.and_eq_true, Bool.and_eq_true, Bool.and_eq_true, decide_eq_true_eq] at h
    obtain ⟨⟨rfl, hgl⟩, ha, hb⟩ := h
    have A := snd M a c hf hg _ ha X x
    have B := snd M b c hf hg _ hb X x
    have gl := gl_of x hgl
    have mg : ∀ n ∈ blts, X.mg n = none := fun n hn => by rw [x.xo.mg]; exact M.blt n hn
    refine SOk.of x.xo ?_ (fun _ => rfl) (fun _ _ => rfl)
    refine se_r2 A.b B.b (fun q => pe_callB (call_max2 x.xo.calm) gl (mg _ (by decide +kernel)) PyProof.Rows.boot_max q (by decide +kernel) (by decide +kernel) (A.ns _ _) ?_) (A.ns _ _) (B.ns _ _) (cR_max2 x.xo.calm)
    rw [B.ns]
    rfl
  | .isStr a, c, hf, hg, ex, h, X, x => by
    have h : cCall2 (fun x => decide (x = ("isinstance" : Str)) && glB c.sc x) (chkE a c) (cName fun x => decide (x = ("str" : Str)) && glB c.sc x) ex = true := h
    unfold cCall2 at h
    split at h
    rotate_left
    · cases h
    rw [Bool.and_eq_true, Bool.and_eq_true, Bool.and_eq_true, decide_eq_true_eq] at h
    obtain ⟨⟨rfl, hgl⟩, ha, hb⟩ := h
    unfold cName at hb
    split at hb
    rotate_left
    · cases hb
    rw [Bool.and_eq_true, decide_eq_true_eq] at hb
    obtain ⟨rfl, hgb⟩ := hb
    have A := snd M a c hf hg _ ha X x
    have mg : ∀ n ∈ blts, X.mg n = none := fun n hn => by rw [x.xo.mg]; exact M.blt n hn
    exact SOk.of x.xo (se_isStr x.xo A.b (gl_of x hgl) (mg _ (by decide +kernel)) (gl_of x hgb) (mg _ (by decide +kernel)) fun es => A.ns es _) (fun _ => rfl) (fun _ _ => rfl)
  | .join s a, c, hf, hg, ex, h, X, x => by
    have h : cMeth1 "join" (fun o => isConstE o && chkE s c o) (chkE a c) ex = true := h
    unfold cMeth1 at h
    split at h
    rotate_left
    · cases h
    rw [Bool.and_eq_true, Bool.and_eq_true, Bool.and_eq_true, Bool.and_eq_true, decide_eq_true_eq] at h
    obtain ⟨rfl, hl, ⟨hc, hs⟩, ha⟩ := h
    have S := snd M s c hf hg _ hs X x
    have A := snd M a c hf hg _ ha X x
    exact SOk.of x.xo (se_join x.xo S.b A.b (base_of (ncall_of hc)) hl fun es => A.ns es _) (fun _ => rfl) (fun _ _ => rfl)
  | .addRepl s y a, c, hf, hg, ex, h, X, x => by
    have h : cAddRepl s y (chkE a c) ex = true := h
    unfold cAddRepl at h
    split at h
    rotate_left
    · cases h
    rw [Bool.and_eq_true, Bool.and_eq_true, Bool.and_eq_true, Bool.and_eq_true, Bool.and_eq_true, Bool.and_eq_true, decide_eq_true_eq, decide_eq_true_eq, decide_eq_true_eq, decide_eq_true_eq, Bool.not_eq_true'] at h
    obtain ⟨rfl, rfl, rfl, rfl, hl, hcl, ha⟩ := h
    have A := snd M a c hf hg _ ha X x
    exact SOk.of x.xo (se_addRepl A.b (base_of hcl) hl) (fun _ => rfl) (fun _ _ => rfl)
  | .idx a i, c, hf, hg, ex, h, X, x => by
    have h : cIdx (chkE a c) (chkE i c) ex = true := h
    unfold cIdx at h
    split at h
    rotate_left
    · cases h
    rw [Bool.and_eq_true, Bool.and_eq_true, Bool.not_eq_true'] at h
    obtain ⟨hsl, ha, hi⟩ := h
    exact SOk.of x.xo (se_idx x.xo (snd M a c hf hg _ ha X x).b (snd M i c hf hg _ hi X x).b (pix_of hsl)) (fun _ => rfl) (fun _ _ => rfl)
  | .sl a lo hi, c, hf, hg, ex, h, X, x => by
    have h : cSl (chkE a c) (cOpt lo.isNo (chkE lo c)) (cOpt hi.isNo (chkE hi c)) ex = true := h
    unfold cSl at h
    split at h
    rotate_left
    · cases h
    rw [Bool.and_eq_true, Bool.and_eq_true] at h
    obtain ⟨ha, hl, hh⟩ := h
    have opt : ∀ (m : CE) (o : Option Expr), (∀ e, chkE m c e = true → SOk G X e (sem (P.cf k) m)) → cOpt m.isNo (chkE m c) o = true → PO X o (tOpt G (optI (sem (P.cf k) m))) := by
      intro m o hm ho
      cases o with
      | none =>
        cases m <;> first | (cases ho; done) | exact so_none
      | some e =>
        have ho : (!m.isNo && chkE m c e) = true := ho
        rw [Bool.and_eq_true] at ho
        exact so_some (hm e ho.2)
    exact SOk.of x.xo (se_sl x.xo (snd M a c hf hg _ ha X x).b (opt lo _ (fun e he => snd M lo c hf hg e he X x) hl) (opt hi _ (fun e he => snd M hi c hf hg e he X x) hh)) (fun _ => rfl) (fun _ _ => rfl)
  | .tup es, c, hf, hg, ex, h, X, x => by
    have h : cTup (chkEs es c) ex = true := h
    unfold cTup at h
    split at h
    rotate_left
    · cases h
    exact SOk.of x.xo (se_tup (sndA M es c hf hg _ h X x).1) (fun _ => rfl) (fun _ _ => rfl)
  | .lst es, c, hf, hg, ex, h, X, x => by
    have h : cLst (chkEs es c) ex = true := h
    unfold cLst at h
    split at h
    rotate_left
    · cases h
    exact SOk.of x.xo (se_lst (sndA M es c hf hg _ h X x).1) (fun _ => rfl) (fun _ _ => rfl)
  | .tape es, c, hf, hg, ex, h, X, x => by
    have h : cLst (chkEs es c) ex = true := h
    unfold cLst at h
    split at h
    rotate_left
    · cases h
    exact SOk.of x.xo (se_tape (sndA M es c hf hg _ h X x).1) (fun _ => rfl) (fun _ _ => rfl)
  | .lc vs p it t e, c, hf, hg, ex, h, X, x => by
    obtain ⟨hp, mk, hns, htr⟩ := sndLc M vs p it t e c hf hg ex h X x (fun ex h => snd M it c hf hg ex h X x) (fun c hf hg ex h X x => snd M t c hf hg ex h X x) (fun c hf hg ex h X x => snd M e c hf hg ex h X x)
    exact SOk.of x.xo (se_lc hp mk) htr hns
  | .iRng a, c, hf, hg, ex, h, X, x => by
    have h : cCall1 (fun x => decide (x = ("range" : Str)) && glB c.sc x) (chkE a c) ex = true := h
    unfold cCall1 at h
    split at h
    rotate_left
    · cases h
    rw [Bool.and_eq_true, Bool.and_eq_true, decide_eq_true_eq] at h
    obtain ⟨⟨rfl, hgl⟩, ha⟩ := h
    have A := snd M a c hf hg _ ha X x
    have mg : ∀ n ∈ blts, X.mg n = none := fun n hn => by rw [x.xo.mg]; exact M.blt n hn
    exact ⟨pe_no.toB, pe_no.toR, pe_no, pt_no, fun tg => se_rng tg (gl_of x hgl) (mg _ (by decide +kernel)) A.b fun es => A.ns es _, fun _ _ => rfl, rfl⟩
theorem sndA {G : Gm} {k : Nat} {P : Pg} {fn gn : List Str} (M : Mf G P fn gn k) : ∀ (es : List CE) (c : Ck), c.fn = fn → c.gn = gn → ∀ ex : List Expr, chkEs es c ex = true → ∀ X, Xk G X c k → PA X ex (tA G (sems (P.cf k) es)) ∧
    ∀ e r, ex = e :: r → starEach (e :: r) X.env = (false, eval e X.env) :: starEach r X.env ∧ ∀ {pos : Pos}, (backTo pos (starEach r X.env)).any (·.1) = false
  | [], c, hf, hg, ex, h, X, x => by
    cases ex with
    | nil => exact ⟨sa_nil, fun _ _ z => nomatch z⟩
    | cons _ _ => cases h
  | a :: as, c, hf, hg, ex, h, X, x => by
    cases ex with
    | nil => cases h
    | cons e es =>
      have h : (notStarE e && (chkE a c e && chkEs as c es)) = true := h
      rw [Bool.and_eq_true, Bool.and_eq_true] at h
      have A := snd M a c hf hg e h.2.1 X x
      obtain ⟨B, ns⟩ := sndA M as c hf hg es h.2.2 X x
      refine ⟨sa_cons A.e B (A.ns _ _), fun e' r z => ?_⟩
      cases z
      refine ⟨A.ns _ _, fun {pos} => ?_⟩
      cases es with
      | nil => rfl
      | cons d r =>
        obtain ⟨q1, q2⟩ := ns d r rfl
        rw [q1]
        show (false || (backTo pos (starEach r X.env)).any (·.1)) = false
        rw [q2]
        rfl
end
end M3
/-! M3o: what is checked is sound: statements. -/
namespace M3
open PySem PySem.Spec PyProof.Rows L2

section
variable {G : Gm} {X : Cx} {k : Nat} {P : Pg} {c : Ck}
theorem env_bk (hk : X.env.scope.kind = .function) : X.env.blockKind = .function := by
  unfold Env.blockKind
  rw [hk]
  rfl
theorem sw_none {v : Expr} {t : Option Expr} {l : Nat} {env : Env} (h : isCompE v = false) : swapsWith v t l env = pure false := by
  cases v <;> first | (cases h; done) | rfl
theorem sw_lem (hk : X.env.scope.kind = .function) (x : Xk G X c k) {v : Expr} {n : Str} {p : Pos} {l : Nat} (hn : noOther v = true) (h : swB c n p.line v = false) : swapsWith v (some (.Name n p)) l X.env = pure false := by
  cases v <;> first | (cases hn; done) | rfl | skip
  rename_i elt gs scope pos
  have h : (decide (c.sc.names.lookup n = some .local) && ((p.line == pos.line) && !(scope.names.any fun (m, k) => m == n && (k == .local || k == .cell)))) = false := h
  have ek : X.env.kindOf n = c.sc.names.lookup n := by
    show X.env.scope.names.lookup n = _
    rw [x.xo.sc]
  have e : (c.sc.names.lookup n == some .local) = decide (c.sc.names.lookup n = some .local) := by
    by_cases z : c.sc.names.lookup n = some .local
    · rw [z]; rfl
    · rw [decide_eq_false z]
      exact beq_eq_false_iff_ne.mpr z
  show (pure (X.env.blockKind == .function && X.env.kindOf n == some .local && p.line == pos.line && !(scope.names.any fun (m, k) => m == n && (k == .local || k == .cell))) : Sem Bool) = pure false
  rw [env_bk hk, ek, e]
  refine congrArg pure ?_
  rw [← h]
  generalize decide (c.sc.names.lookup n = some .local) = b1
  generalize (p.line == pos.line) = b2
  cases b1 <;> cases b2 <;> rfl
theorem swp_lem {es : List Expr} {e : Expr} {j : Nat} {p : Pos} (hn : isTupE e = false) : swappedStores [.Tuple es j p] e X.env = pure none := by
  cases e <;> first | (cases hn; done) | rfl
theorem sws_lem {es : List Expr} {e : Expr} {j : Nat} {p : Pos} {l : Nat} (hn : noOther e = true) : swapsWithSole [.Tuple es j p] e l X.env = pure false := by
  cases e <;> first | (cases hn; done) | rfl
theorem sws_lem2 {a b : Expr} {e : Expr} {p : Pos} {l : Nat} (hn : noOther e = true) : swapsWithSole [.Subscript a b p] e l X.env = pure false := by
  cases e <;> first | (cases hn; done) | rfl
theorem asg_sub {a b : Expr} {p : Pos} {v : Value} {env : Env} (hn : isSliceE b = false) : assign (.Subscript a b p) env v = (do
      let ov ← holding [v] (eval a env)
      let iv ← holding [v, ov] (eval b env)
      standAt p
      holding [v, ov, iv] (setItem ov iv v)
      release [v, ov, iv] []) := by
  cases b <;> first | (cases hn; done) | rfl
/-- name = [..] at once -/
theorem set_lc {G : Gm} {k : Nat} {P : Pg} {fn gn : List Str} (M : Mf G P fn gn k) (hk : X.env.scope.kind = .function) {i : Nat} {n : Str} {py sp : Pos} (vs : List Nat) (p : Pat) (it t e : CE) (c : Ck) (hf : c.fn = fn) (hg : c.gn = gn) (ex : Expr) (h : chkE (.lc vs p it t e) c ex = true) (x : Xk G X c k)
    (hs : swB c n py.line ex = true) (hi : StNm X i n) : PS X (.Assign [.Name n py] ex sp) (tAsg (tLc (tI G (sem (P.cf k) it).i) (tP G p) (tT G (testsR (sem (P.cf k) t))) (tE G (sem (P.cf k) e).e) vs) (gName i)) ∧ (∀ i ∈ p.slots, i ∈ vs) := by
  have h : cLc c vs p t.isNo (chkE it c) (chkE t) (chkE e) ex = true := h
  unfold cLc at h
  split at h
  rotate_left
  · cases h
  rename_i elt tg iter ifs a scope pos h0
  simp only [Bool.and_eq_true, decide_eq_true_eq] at h
  obtain ⟨rfl, hb, hsl, hpt, hst, hit, htt, hel⟩ := h
  have hst : isSetE iter = false := by simpa using hst
  have hv : (ownOf c vs).map (·.2) = vs := by
    unfold ownOf
    rw [List.map_map]
    exact List.map_id' vs
  have hs : (decide (c.sc.names.lookup n = some .local) && ((py.line == pos.line) && !(scope.names.any fun (m, k) => m == n && (k == .local || k == .cell)))) = true := hs
  rw [Bool.and_eq_true, Bool.and_eq_true, decide_eq_true_eq, Bool.not_eq_true'] at hs
  have ly : X.env.scope.names.lookup n = some .local := by rw [x.xo.sc]; exact hs.1
  have q := ps_setLc (i := i) (y := n) (py := py) (elt := elt) (tg := tg) (iter := iter) (ifs := ifs) (scope := scope) (own := ownOf c vs) (pos := pos) (spos := sp) (wi := tI G (sem (P.cf k) it).i) (g := tP G p) (tt := tT G (testsR (sem (P.cf k) t))) (te := tE G (sem (P.cf k) e).e) x.xo.calm x.xo.nd hi.1 ly
    (sw_true hk ly hs.2.1 hs.2.2) ((snd M it c hf hg _ hit X x).i tg) (by rw [x.xo.N, x.xo.sc]; exact blkOk_by hb)
    (fun s H C cl fp => pat_of (blk_xk x scope s H C cl fp) hpt) (fun s H C cl fp => tests_of (snd M t (c.blk scope) hf hg) (blk_xk x scope s H C cl fp) htt) (fun s H C cl fp => (snd M e (c.blk scope) hf hg _ hel _ (blk_xk x scope s H C cl fp)).e) (fold_of hst)
  rw [hv] at q
  exact ⟨q, hsl⟩
theorem lc_form {e : CE} (h : e.isLc = true) : ∃ vs p it t el, e = .lc vs p it t el := by
  cases e <;> first | (cases h; done) | exact ⟨_, _, _, _, _, rfl⟩
end
mutual
theorem sndS {G : Gm} {k : Nat} {P : Pg} {fn gn : List Str} (M : Mf G P fn gn k) : ∀ (e : CS) (c : Ck), c.fn = fn → c.gn = gn → ∀ ex : Stmt, chkS e c ex = true → ∀ X, Xk G X c k → X.env.scope.kind = .function → PS X ex (tS G (exec (P.cf k) e))
  | .set i e, c, hf, hg, ex, h, X, x, hk => by
    have h : cSet c i e.isLc (chkE e c) ex = true := h
    unfold cSet at h
    split at h
    rotate_left
    · cases h
    rename_i n p v pos h0
    simp only [Bool.and_eq_true, Bool.or_eq_true, Bool.not_eq_true'] at h
    obtain ⟨h1, h2, h3, h4⟩ := h
    have hst := st_of x h1
    by_cases hs : swB c n p.line v = true
    · have hl : e.isLc = true := by
        rcases h3 with h3 | h3
        · rw [h3] at hs; cases hs
        · exact h3
      obtain ⟨vs, pt, it, t, el, rfl⟩ := lc_form hl
      obtain ⟨q, hsl⟩ := set_lc M hk vs pt it t el c hf hg v h4 x hs hst (sp := pos)
      refine q.imp fun D τ H hq => ?_
      exact lc_imp hsl (set_imp hq)
    · have hs : swB c n p.line v = false := by simpa using hs
      exact s_set x.xo hst (snd M e c hf hg _ h4 X x).e (sw_lem hk x h2 hs)
  | .setO i e, c, hf, hg, ex, h, X, x, hk => by
    have h : cSet c i e.isLc (chkE e c) ex = true := h
    unfold cSet at h
    split at h
    rotate_left
    · cases h
    rename_i n p v pos h0
    simp only [Bool.and_eq_true, Bool.or_eq_true, Bool.not_eq_true'] at h
    obtain ⟨h1, h2, h3, h4⟩ := h
    have hst := st_of x h1
    by_cases hs : swB c n p.line v = true
    · have hl : e.isLc = true := by
        rcases h3 with h3 | h3
        · rw [h3] at hs; cases hs
        · exact h3
      obtain ⟨vs, pt, it, t, el, rfl⟩ := lc_form hl
      obtain ⟨q, hsl⟩ := set_lc M hk vs pt it t el c hf hg v h4 x hs hst (sp := pos)
      refine q.imp fun D τ H hq => ?_
      exact lc_imp hsl (setO_imp hq)
    · have hs : swB c n p.line v = false := by simpa using hs
      exact s_setO x.xo hst (snd M e c hf hg _ h4 X x).e (sw_lem hk x h2 hs)
  | .setT is e, c, hf, hg, ex, h, X, x, hk => by
    have h : cSetT c is (chkE e c) ex = true := h
    unfold cSetT at h
    split at h
    rotate_left
    · cases h
    simp only [Bool.and_eq_true, Bool.not_eq_true'] at h
    obtain ⟨h1, h2, h3, h4⟩ := h
    obtain ⟨q1, q2, q3⟩ := pats_of x _ _ h1
    exact s_setT (sg_tup x.xo q1 q2 q3) (snd M e c hf hg _ h4 X x).e (sws_lem h3) (swp_lem h2) rfl
  | .setIx i ix e, c, hf, hg, ex, h, X, x, hk => by
    have h : cSetIx c i (chkE ix c) (chkE e c) ex = true := h
    unfold cSetIx at h
    split at h
    rotate_left
    · cases h
    simp only [Bool.and_eq_true, Bool.not_eq_true'] at h
    obtain ⟨h1, h2, h3, h4, h5⟩ := h
    exact s_setIx (var_of x h1) (snd M ix c hf hg _ h4 X x).b (snd M e c hf hg _ h5 X x).e fun a b d => ps_asg a (pg_sub b d set_list fun v => asg_sub h2) (sws_lem2 h3) rfl rfl
  | .aug i o e, c, hf, hg, ex, h, X, x, hk => by
    have h : cAug c i o (chkE e c) ex = true := h
    unfold cAug at h
    split at h
    rotate_left
    · cases h
    simp only [Bool.and_eq_true, decide_eq_true_eq] at h
    obtain ⟨h1, rfl, h3⟩ := h
    exact s_aug x.xo (st_of x h1) (snd M e c hf hg _ h3 X x).b
  | .app i e, c, hf, hg, ex, h, X, x, hk => by
    have h : cApp c "append" i (chkE e c) ex = true := h
    unfold cApp at h
    split at h
    rotate_left
    · cases h
    simp only [Bool.and_eq_true, decide_eq_true_eq] at h
    obtain ⟨h1, rfl, h3, h4, h5⟩ := h
    have A := snd M e c hf hg _ h5 X x
    exact s_app (var_of x h1) A.e h3 A.ns
  | .ext i e, c, hf, hg, ex, h, X, x, hk => by
    have h : cApp c "extend" i (chkE e c) ex = true := h
    unfold cApp at h
    split at h
    rotate_left
    · cases h
    simp only [Bool.and_eq_true, decide_eq_true_eq] at h
    obtain ⟨h1, rfl, h3, h4, h5⟩ := h
    have A := snd M e c hf hg _ h5 X x
    exact s_ext (var_of x h1) A.e h3 A.ns
  | .ex e, c, hf, hg, ex, h, X, x, hk => by
    have h : cEx (chkE e c) ex = true := h
    unfold cEx at h
    split at h
    rotate_left
    · cases h
    simp only [Bool.and_eq_true, Bool.not_eq_true'] at h
    exact s_ex (snd M e c hf hg _ h.2 X x).e (sw_none h.1)
  | .ret e, c, hf, hg, ex, h, X, x, hk => by
    have h : cRet (chkE e c) ex = true := h
    unfold cRet at h
    split at h
    rotate_left
    · cases h
    exact s_ret (snd M e c hf hg _ h X x).r
  | .retN, c, hf, hg, ex, h, X, x, hk => by
    have h : cRetN ex = true := h
    unfold cRetN at h
    split at h
    rotate_left
    · cases h
    exact s_retN
  | .ifs t a b, c, hf, hg, ex, h, X, x, hk => by
    have h : cIf (chkE t c) (chkSs a c) (chkSs b c) ex = true := h
    unfold cIf at h
    split at h
    rotate_left
    · cases h
    simp only [Bool.and_eq_true] at h
    exact s_if (snd M t c hf hg _ h.1 X x).t (sndSs M a c hf hg _ h.2.1 X x hk) (sndSs M b c hf hg _ h.2.2 X x hk)
  | .whl t a, c, hf, hg, ex, h, X, x, hk => by
    have h : cWhl (chkE t c) (chkSs a c) ex = true := h
    unfold cWhl at h
    split at h
    rotate_left
    · cases h
    simp only [Bool.and_eq_true] at h
    exact s_whl x.xo (snd M t c hf hg _ h.1 X x).t (sndSs M a c hf hg _ h.2 X x hk)
  | .for1 p it b, c, hf, hg, ex, h, X, x, hk => by
    have h : cFor c p (chkE it c) (chkSs b c) ex = true := h
    unfold cFor at h
    split at h
    rotate_left
    · cases h
    simp only [Bool.and_eq_true, Bool.not_eq_true'] at h
    obtain ⟨h1, h2, h3, h4⟩ := h
    exact s_for x.xo ((snd M it c hf hg _ h3 X x).i _) (pat_of x h1) (sndSs M b c hf hg _ h4 X x hk) (fold_of h2)
  | .brk, c, hf, hg, ex, h, X, x, hk => by
    have h : cBrk ex = true := h
    unfold cBrk at h
    split at h
    rotate_left
    · cases h
    exact s_brk
  | .cnt, c, hf, hg, ex, h, X, x, hk => by
    have h : cCnt ex = true := h
    unfold cCnt at h
    split at h
    rotate_left
    · cases h
    exact s_cnt
  | .pass, c, hf, hg, ex, h, X, x, hk => by
    have h : cPass ex = true := h
    unfold cPass at h
    split at h
    rotate_left
    · cases h
    exact s_pass
  | .never, c, hf, hg, ex, h, X, x, hk => s_never
  | .frz i, c, hf, hg, ex, h, X, x, hk => by cases h
theorem sndSs {G : Gm} {k : Nat} {P : Pg} {fn gn : List Str} (M : Mf G P fn gn k) : ∀ (es : List CS) (c : Ck), c.fn = fn → c.gn = gn → ∀ ex : List Stmt, chkSs es c ex = true → ∀ X, Xk G X c k → X.env.scope.kind = .function → PSs X ex (tS G (execs (P.cf k) es))
  | [], c, hf, hg, ex, h, X, x, hk => by
    cases ex with
    | nil => exact ss_nil
    | cons _ _ => cases h
  | a :: as, c, hf, hg, ex, h, X, x, hk => by
    by_cases hz : ∃ i, a = .frz i
    · obtain ⟨i, rfl⟩ := hz
      exact ss_frz (sndSs M as c hf hg ex h X x hk)
    · have hn : a.frz? = none := by
        cases a <;> first | rfl | exact absurd ⟨_, rfl⟩ hz
      unfold chkSs at h
      rw [hn] at h
      cases ex with
      | nil => cases h
      | cons s ss =>
        have h : (chkS a c s && chkSs as c ss) = true := h
        rw [Bool.and_eq_true] at h
        exact ss_cons (sndS M a c hf hg s h.1 X x hk) (sndSs M as c hf hg ss h.2 X x hk)
end
end M3
/-! M3p: defs, all of them, and the law's end. -/
namespace M3
open PySem PySem.Spec PyProof.Rows L2

theorem call_inv {P : Pg} {k f : Nat} {ds : List D} {S S' : Sto} {x : T} (h : M3.call P k f ds S = some (x, S')) : ∃ j fd, k = j + 1 ∧ P.fds[f]? = some fd ∧ ds.length = fd.np ∧ outOf (execs (P.cf j) fd.body (startS fd ds) S) = some (x, S') := by
  cases k with
  | zero => cases h
  | succ j =>
    rw [call_succ] at h
    cases e : P.fds[f]? with
    | none => rw [e] at h; cases h
    | some fd =>
      rw [e] at h
      have h : runF (P.cf j) fd ds S = some (x, S') := h
      unfold runF at h
      split at h
      · exact ⟨j, fd, rfl, rfl, by assumption, h⟩
      · cases h
theorem fr_start {G : Gm} {W : Wd} {fd : FD} {N : List Str} {vs : List V} {ds : List D} (r : RVs G W vs ds) (hn : fd.nl = N.length) : FrOk G W W (startS fd ds) (L2.start N vs) := by
  have hl := r.length
  have inv : ∀ {i : Nat} {x : T}, (startS fd ds)[i]? = some (some x) → ∃ d, ds[i]? = some d ∧ x = .v d := by
    intro i x h
    unfold startS at h
    by_cases hi : i < ds.length
    · rw [List.getElem?_append_left (by rw [List.length_map]; exact hi), List.getElem?_map] at h
      obtain ⟨d, e1, e2⟩ := Option.map_eq_some_iff.mp h
      cases e2
      exact ⟨d, e1, rfl⟩
    · rw [List.getElem?_append_right (by rw [List.length_map]; omega), List.getElem?_replicate] at h
      split at h <;> cases h
  refine ⟨?_, fun i x h => ?_, fun i j xs ys a _ h => ?_⟩
  · unfold startS L2.start
    rw [List.length_append, List.length_append, List.length_map, List.length_map, List.length_replicate, List.length_replicate, hl, hn]
  · obtain ⟨d, e1, rfl⟩ := inv h
    obtain ⟨v, e2, e3⟩ := r.get e1
    refine ⟨v, ?_, e3⟩
    unfold L2.start
    have hi := (List.getElem?_eq_some_iff.mp e2).1
    rw [List.getElem?_append_left (by rw [List.length_map]; exact hi), List.getElem?_map, e2]
    rfl
  · obtain ⟨d, _, e⟩ := inv h
    cases e

/-- what stands fast of a def -/
structure FSt (G : Gm) (P : Pg) (fn gn : List Str) (f : Nat) (x : Str) (a : Addr) : Prop where
  fa : G.fa f = some a
  mg : G.mg x = some (.ref a)
  kp : PySem.W.keepIn G.K (.ref a) = true
  ex : ∃ (fu : FuncData) (ps N : List Str) (st : Stmt) (fd : FD), Fun G.K x x st a fu ∧ Binds G.K fu ps [] ∧ FnScope N ps (defScope st) ∧ P.fds[f]? = some fd ∧
    chkSs fd.body ⟨N, defScope st, fun _ => true, fn, gn⟩ (defBody st) = true ∧ fd.np = ps.length ∧ fd.nl = N.length

theorem run_len {G : Gm} {P : Pg} {k f : Nat} {fd : FD} {ps : List Str} (h2 : P.fds[f]? = some fd) (h4 : fd.np = ps.length) {vs : List V} {H : Hp} {Q : VK} (h : spD G P k f vs H Q) : vs.length = ps.length := by
  obtain ⟨W, ds, x, S', _, _, r, e, _⟩ := h
  obtain ⟨j, fd', _, e2, e3, _⟩ := call_inv e
  rw [h2] at e2; cases e2
  rw [r.length, e3, h4]
/-- one def, from those a level below -/
theorem run_up {G : Gm} {P : Pg} {fn gn : List Str} {k f : Nat} {x : Str} {a : Addr} (M : Mf G P fn gn k) {fu : FuncData} {ps N : List Str} {st : Stmt} {fd : FD} (Fu : Fun G.K x x st a fu) (Sc : FnScope N ps (defScope st)) (h2 : P.fds[f]? = some fd)
    (h3 : chkSs fd.body ⟨N, defScope st, fun _ => true, fn, gn⟩ (defBody st) = true) (h4 : fd.np = ps.length) (h5 : fd.nl = N.length) : FnRun G.prog G.w G.K G.mg G.base G P (k + 1) f a fu ps := by
  refine ⟨fun vs H Q h => run_len h2 h4 h, fun A outer s H args us vs Q rm e0 hb rv sp => ?_⟩
  have hlen := run_len h2 h4 sp
  obtain ⟨W, ds, y, S', rfl, ok, r, ev, hQ⟩ := sp
  obtain ⟨j, fd', ej, e2, e3, e4⟩ := call_inv ev
  cases ej
  rw [h2] at e2; cases e2
  obtain ⟨oc, od, kV, doc, pm, an, cdv, ct, osl, rfl, lk, hcd⟩ := Fu.ex
  have inH : G.K.In s.heap := e0.mod.kin.keeps fun b o e => (e0.bs b o e).1
  have noL : s.heap.NoLimit := e0.mod.nolimit.keeps fun b o e => (e0.bs b o e).1
  have par : ∀ y ∈ ps.zip us, (defScope st).names.lookup y.1 = some .local ∨ ((defScope st).names.lookup y.1 = some .cell ∧ ((cellsFrom (s.heap.objs.size + 1) (defScope st).names []).lookup y.1).isSome = true) := by
    rintro ⟨n, v⟩ hy
    exact (Sc.par n (List.of_mem_zip hy).1).elim .inl fun q => .inr ⟨q, PySem.W.cellsFrom_some _ _ _ (.inl q)⟩
  refine codeAny_call_function rm.rm.depth (inH _ _ lk) rfl Sc.co Sc.gen rfl (PySem.W.codeRec_of inH hcd) (hb _ _ _ _ ?_)
  refine wpAny_newFunctionEnv_cells Sc.kind par fun env he s1 ic => ?_
  subst he
  refine ⟨noL.keeps ic.toInCall.keep, codeAny_func ?_⟩
  have I0 := inv_start (CX := CX0) (E := E0) (qual := x) (cd := cdv) Sc rm.rm.hd e0 hlen rv ic
  have Xo : Xk G (cxOf CX0 G.prog G.w G.K G.mg G.base N x (defScope st) a cdv A outer s W.H E0).nox ⟨N, defScope st, fun _ => true, fn, gn⟩ k :=
    ⟨⟨rfl, rfl, rfl, rfl, rfl, rfl, rfl, rfl, Sc.nd, rm.rm.deeper _, rm.gd, rfl⟩, fun _ _ => rfl⟩
  have body := (sndSs M fd.body ⟨N, defScope st, fun _ => true, fn, gn⟩ rfl rfl _ h3 _ Xo Sc.kind).nox
  have hq : tS G (execs (P.cf k) fd.body) { nx := fun _ H' => Q .non H', rt := Q } (L2.start N vs) W.H := by
    unfold outOf at e4
    split at e4
    · rename_i z σ' S2 e5
      cases e4
      exact ⟨W, W, _, _, _, _, rfl, ok, fr_start r h5, Ext.refl W, e5, fun W' x1 _ k1 s1 v hv => hQ v W' x1 k1 s1 hv⟩
    · rename_i σ' S2 e5
      cases e4
      exact ⟨W, W, _, _, _, _, rfl, ok, fr_start r h5, Ext.refl W, e5, fun W' x1 _ k1 s1 τ' _ => hQ .non W' x1 k1 s1 .non⟩
    · cases e4
  refine wpAny_mono (body.run [] s1 (L2.start N vs) W.H _ I0 hq) (fun fl s' hs => ?_) fun e s' hs => hs
  match fl, hs with
  | .ret u, ⟨v, σ', H', J, rw', q⟩ => exact ⟨v, H', J.os, J.bare, J.base, J.hok, rw', q⟩
  | .next, ⟨σ', H', J, q⟩ => exact ⟨.non, H', J.os, J.bare, J.base, J.hok, rfl, q⟩
  | .brk, ⟨_, _, _, q⟩ => exact q.elim
  | .cont, ⟨_, _, _, q⟩ => exact q.elim
theorem fnAt_zero {G : Gm} {P : Pg} {fn gn : List Str} {f : Nat} {x : Str} {a : Addr} (h : FSt G P fn gn f x a) : FnAt G P 0 f x a := by
  obtain ⟨fu, ps, N, st, fd, F, b, S, h2, h3, h4, h5⟩ := h.ex
  refine ⟨h.fa, h.mg, h.kp, fu, ps, b, fun vs H Q h => run_len h2 h4 h, fun A outer s H args us vs Q _ _ _ _ sp => ?_⟩
  obtain ⟨W, ds, y, S', _, _, _, e, _⟩ := sp
  cases e
theorem fnAt_succ {G : Gm} {P : Pg} {fn gn : List Str} {k f : Nat} {x : Str} {a : Addr} (M : Mf G P fn gn k) (h : FSt G P fn gn f x a) : FnAt G P (k + 1) f x a := by
  obtain ⟨fu, ps, N, st, fd, F, b, S, h2, h3, h4, h5⟩ := h.ex
  exact ⟨h.fa, h.mg, h.kp, fu, ps, b, run_up M F S h2 h3 h4 h5⟩
/-- all defs at all levels -/
theorem mf_all {G : Gm} {P : Pg} {fn gn : List Str} (st : ∀ (f : Nat) (x : Str), fn[f]? = some x → ∃ a, FSt G P fn gn f x a) (of : ∀ (f : Nat) (a : Addr), G.fa f = some a → ∃ x, fn[f]? = some x ∧ FSt G P fn gn f x a)
    (con : ∀ (i : Nat) (x : Str), gn[i]? = some x → ∃ v u, G.mg x = some u ∧ L2.RelV v u ∧ ∀ W, RV G W v (P.glob i)) (blt : ∀ x ∈ blts, G.mg x = none) : ∀ k, Mf G P fn gn k
  | 0 => ⟨⟨fun f x h => let ⟨a, q⟩ := st f x h; ⟨a, fnAt_zero q⟩, fun f a h => let ⟨x, q1, q2⟩ := of f a h; ⟨x, q1, fnAt_zero q2⟩⟩, con, blt⟩
  | k + 1 =>
    have M := mf_all st of con blt k
    ⟨⟨fun f x h => let ⟨a, q⟩ := st f x h; ⟨a, fnAt_succ M q⟩, fun f a h => let ⟨x, q1, q2⟩ := of f a h; ⟨x, q1, fnAt_succ M q2⟩⟩, con, blt⟩

/-! ### the end -/
abbrev EndR (s₁ : Shared) (r : Result) (s' : Shared) : Prop := r = .ok (.ret (.bool true)) ∧ OldK s₁.heap s'.heap ∧ s'.os = s₁.os ∧ AllBare s'.gens
theorem end_core {G : Gm} {P : Pg} {k f : Nat} {fa a : Addr} {fu : FuncData} {x : Str} {s₁ : Shared} {mb : Str → Option Value} {l : List Value} {ns : List Int} {H : Hp} (hbase : G.base = hidT s₁.heap H)
    (KX : G.K.In s₁.heap) (hm : s₁.heap.Ns mainGlobals G.mg) (hb : s₁.heap.Ns builtinsNs mb) (hbb : ∀ y : Str, y ≠ "__name__" → mb y = bootBuiltins y) (lim : s₁.heap.NoLimit) (hg : s₁.gens = #[])
    (ha : s₁.heap.get? a = some { cls := .type "list", data := .seq l.toArray }) (rm : Rm k callerA)
    (run : G.K.In G.base → G.base.Ns mainGlobals G.mg → FnRun G.prog G.w G.K G.mg G.base G P k f fa fu [x]) (bind : ∀ (s : Shared) (u : Value), BindsTo s fu ⟨[u], []⟩ [(x, u)])
    (ev : ∃ S, M3.call P k f [.scr ns] [] = some (.v (.bl true), S)) (only : Only H) (scr : ScrAt G.K H a (ns.map V.int)) (hok : HOk G.prog G.w H s₁.heap) (at' : ∀ b, H b ≠ none → b = a) (off : H a ≠ none → G.K.lookup a = none) :
    codeAny (model G.prog G.w) callerA (.call (.ref fa) ⟨[.ref a], []⟩) (EndR s₁) s₁ := by
  have hid : ∀ {b : Addr} {o : Obj}, s₁.heap.get? b = some o → H b = none → G.base.get? b = some o := fun e n => by rw [hbase]; exact hidT_get e n
  have nil : ∀ {b : Addr} {o : Obj}, s₁.heap.get? b = some o → (b = a → False) → H b = none := fun {b o} _ n => Classical.byContradiction fun z => n (at' b z)
  have ns' : ∀ {b : Addr} {m : Str → Option Value}, s₁.heap.Ns b m → G.base.Ns b m := by
    rintro b m ⟨o, es, ep, e, d, r⟩
    refine ⟨o, es, ep, hid e (nil e fun z => ?_), d, r⟩
    subst z
    rw [ha] at e
    cases e
    exact Data.noConfusion d
  have offK : ∀ b o, G.K.lookup b = some o → H b = none := fun b o e => Classical.byContradiction fun z => by
    have ez := at' b z
    rw [ez] at e z
    rw [off z] at e
    cases e
  have inB : G.K.In G.base := fun b o e => hid (KX b o e) (offK b o e)
  obtain ⟨mc, l1, l2⟩ := lim
  have md : Mod G.K G.mg G.base := ⟨inB, ns' hm, ⟨mb, ns' hb, hbb⟩, mc, ns' l1, l2⟩
  have e0 : Env0 G.prog G.w G.K G.mg G.base callerA [] s₁ H := by
    refine ⟨rfl, md, ?_, ?_, trivial, fun b hb => absurd (show b ∈ ([] : List Addr) from hb) List.not_mem_nil, hok, AllBare.of_eq hg⟩
    · rw [hbase]
      exact fun b o e => of_hidT e
    · rw [hbase]
      exact Nat.le_of_eq (hidT_size _ _)
  obtain ⟨S, hev⟩ := ev
  have sp : spD G P k f [.ref a] H (fun v _ => v = .bl true) :=
    ⟨⟨fun _ => False, H, [], []⟩, [.scr ns], .v (.bl true), S, rfl, ⟨rfl, .nil, fun r b h => by simp at h, fun _ z => z.elim⟩, .cons (.scr scr) .nil, hev, fun v W' _ _ _ hv => RV.inv_bl hv⟩
  refine codeAny_mono ((run inB (ns' hm)).run callerA [] s₁ H ⟨[.ref a], []⟩ [.ref a] [.ref a] _ rm e0 (bind s₁ (.ref a)) (.cons rfl .nil) sp) fun r s' h => ?_
  match r, h with
  | .ok (.ret u), ⟨v, H', os, bare, un, hok', rv, q⟩ =>
    have q : v = .bl true := q
    rw [q] at rv
    have ru : u = Value.bool true := rv
    refine ⟨by rw [ru], OldK.of_keep fun b o e => ?_, os, bare⟩
    cases hz : H b with
    | none => exact un.keep b o e hz (fun z => nomatch z) (by simp)
    | some y =>
      rcases only b with z | ⟨ob, xs, z⟩
      · rw [hz] at z; cases z
      · obtain ⟨e1, _⟩ := hok b _ z
        obtain ⟨e2, _⟩ := hok' b _ (un.frzs b ob _ z)
        rw [e1] at e
        cases e
        exact e2
/-- the law's def at the caller's level -/
theorem end_call {prog : Program} {w : World} {K : PySem.W.Frag} {mg mb : Str → Option Value} {fal : Nat → Option Addr} {P : Pg} {k f : Nat} {fa a : Addr} {fu : FuncData} {x : Str} {s₁ : Shared} {l : List Value} {ns : List Int}
    (KX : K.In s₁.heap) (hm : s₁.heap.Ns mainGlobals mg) (hb : s₁.heap.Ns builtinsNs mb) (hbb : ∀ y : Str, y ≠ "__name__" → mb y = bootBuiltins y) (lim : s₁.heap.NoLimit) (hg : s₁.gens = #[])
    (ha : s₁.heap.get? a = some { cls := .type "list", data := .seq l.toArray }) (hi : IntsAre l ns) (hz : ns.length ≤ sizeLine) (rm : Rm k callerA)
    (run : ∀ base : Heap, K.In base → base.Ns mainGlobals mg → FnRun prog w K mg base ⟨prog, w, K, mg, base, fal⟩ P k f fa fu [x]) (bind : ∀ (s : Shared) (u : Value), BindsTo s fu ⟨[u], []⟩ [(x, u)])
    (ev : ∃ S, M3.call P k f [.scr ns] [] = some (.v (.bl true), S)) : codeAny (model prog w) callerA (.call (.ref fa) ⟨[.ref a], []⟩) (EndR s₁) s₁ := by
  have rv := vals_ints hi
  have len := hi.length
  by_cases hk : K.lookup a = none
  · refine end_core (G := ⟨prog, w, K, mg, hidT s₁.heap fun b => if b = a then some (.frz { cls := .type "list", data := .seq l.toArray } (.lst (ns.map V.int))) else none, fal⟩) rfl KX hm hb hbb lim hg ha rm (fun q r => run _ q r) bind ev (fun b => ?_) (.inl ⟨_, if_pos rfl⟩) (fun b u z => ?_) (fun b z => ?_) fun _ => hk
    · by_cases e : b = a
      · exact .inr ⟨_, _, if_pos e⟩
      · exact .inl (if_neg e)
    · by_cases e : b = a
      · subst e
        cases (if_pos rfl).symm.trans z
        exact ⟨ha, by rw [List.length_map]; exact hz, l, _, rv, ha⟩
      · cases (if_neg e).symm.trans z
    · exact Classical.byContradiction fun e => z (if_neg e)
  · obtain ⟨o, ho⟩ := Option.ne_none_iff_exists'.mp hk
    have e := KX a o ho
    rw [ha] at e
    cases e
    refine end_core (G := ⟨prog, w, K, mg, hidT s₁.heap fun _ => none, fal⟩) rfl KX hm hb hbb lim hg ha rm (fun q r => run _ q r) bind ev (fun b => .inl rfl) (.inr (.inr ⟨_, l.toArray, _, ho, rfl, rfl, rfl, ?_, ?_⟩)) (fun b u z => nomatch z) (fun b z => (z rfl).elim) fun z => (z rfl).elim
    · rw [List.size_toArray, len]; exact hz
    · simpa using rv
theorem rm_caller {k : Nat} (h : k ≤ 231) : Rm k callerA := by
  refine ⟨⟨rfl, ?_, ?_⟩, rfl⟩
  · show callerA.depth + 3 * k + 5 < recursionLimit
    have : callerA.depth + 3 * 231 + 5 < recursionLimit := by decide
    omega
  · show callerA.units + 16 * k + 200 < cLine
    have : callerA.units + 16 * 231 + 200 < cLine := by decide
    omega
/-- THE END: the row's goal -/
theorem row_of {l : PySem.W.OpenLaw} {n k f : Nat} {q : Program} {loose : List Str} {XP : (Str → Option Value) → Heap → Prop} {YP : World → Heap → Prop} {d : DefRec} {K : Params → PySem.W.Frag} {P : Pg} {x : Str}
    (hn : l.most = some n) (hn2 : n ≤ sizeLine) (hdf : d.params.defaults = []) (hk : k ≤ 231) (hY : ∀ (w : World) (h : Heap), YP w h → (K w.params).In h)
    (F : ∀ (w : World) (mg : Str → Option Value) (fa : Addr) (h : Heap), (K w.params).In h → h.Ns mainGlobals mg → mg d.name = some (.ref fa) →
      ∃ (fu : FuncData) (fal : Nat → Option Addr), (∀ (s : Shared) (u : Value), BindsTo s fu ⟨[u], []⟩ [(x, u)]) ∧
        ∀ base : Heap, (K w.params).In base → base.Ns mainGlobals mg → FnRun l.prog w (K w.params) mg base ⟨l.prog, w, K w.params, mg, base, fal⟩ P k f fa fu [x])
    (law : ∀ ns : List Int, ns.length ≤ n → ∃ S, M3.call P k f [.scr ns] [] = some (.v (.bl true), S)) :
    PySem.W.WalkO q loose XP YP l.row.toRowW d [] (fun f vs => PySem.call f vs) :=
  Att.attach_call hn hdf fun w s₀ s₁ mg mb fa o pm cd doc a vs ns G Y ho hd hcd hmg hobj hints hlen hg => by
    have inH := hY w _ Y
    obtain ⟨fu, fal, hb, hF⟩ := F w mg fa _ inH G.T.g hmg
    exact end_call inH G.T.g G.T.b G.T.builtins G.T.nolimit hg hobj hints (Nat.le_trans hlen hn2) (rm_caller hk) hF hb (law ns hlen)
end M3
/-! M3q: the facts of one law's table. -/
namespace M3
open PySem PySem.Spec PyProof.Rows L2

def atAll {α : Type} (p : Nat → α → Prop) : Nat → List α → Prop
  | _, [] => True
  | i, a :: l => p i a ∧ atAll p (i + 1) l
theorem atAll_get {α : Type} {p : Nat → α → Prop} : ∀ {l : List α} {k i : Nat} {x : α}, atAll p k l → l[i]? = some x → p (k + i) x
  | [], _, _, _, _, h => by simp at h
  | a :: l, k, 0, x, h, e => by
    simp at e
    subst e
    exact h.1
  | a :: l, k, i + 1, x, h, e => by
    have := atAll_get (i := i) h.2 (by simpa using e)
    rw [Nat.add_assoc, Nat.add_comm 1 i] at this
    exact this
/-- a def of the table as the top has left it -/
structure RawFn (K : PySem.W.Frag) (x : Str) (st : Stmt) (a : Addr) : Prop where
  ns : PySem.W.nsIn K mainGlobals x = some (some (.ref a))
  ex : ∃ (oc : Value) (od : Option Addr) (kV dc pm : Value) (an : Option Addr) (cd ct : Value) (sl : Array (Option Value)),
    K.lookup a = some ⟨oc, od, .func (PySem.W.fnOf x x (defArgs st) (defBody st) (defScope st) .none kV dc pm an cd ct), sl⟩ ∧ PySem.W.codeIn K cd x = true
  kp : PySem.W.keepIn K (.ref a) = true
theorem raw_mk {K : PySem.W.Frag} {x : Str} {st : Stmt} {a : Addr} {oc kV dc pm cd ct : Value} {od an : Option Addr} {sl : Array (Option Value)} (h1 : PySem.W.nsIn K mainGlobals x = some (some (.ref a)))
    (h2 : K.lookup a = some ⟨oc, od, .func (PySem.W.fnOf x x (defArgs st) (defBody st) (defScope st) .none kV dc pm an cd ct), sl⟩) (h3 : PySem.W.codeIn K cd x = true) (h4 : PySem.W.keepIn K (.ref a) = true) : RawFn K x st a :=
  ⟨h1, ⟨oc, od, kV, dc, pm, an, cd, ct, sl, h2, h3⟩, h4⟩
theorem fst_mk {G : Gm} {h : Heap} {P : Pg} {fn gn N ps : List Str} {f : Nat} {x : Str} {st : Stmt} {a : Addr} {fd : FD} (X : G.K.In h) (ng : h.Ns mainGlobals G.mg) (R : RawFn G.K x st a) (S : FnScope N ps (defScope st))
    (hb : ∀ (kV doc pm : Value) (an : Option Addr) (cdv ct : Value) (us : List Value), us.length = ps.length → bindArgs (PySem.W.fnOf x x (defArgs st) (defBody st) (defScope st) .none kV doc pm an cdv ct) ⟨us, []⟩ = pure (ps.zip us))
    (hfa : G.fa f = some a) (h2 : P.fds[f]? = some fd) (h3 : chkSs fd.body ⟨N, defScope st, fun _ => true, fn, gn⟩ (defBody st) = true) (h4 : fd.np = ps.length) (h5 : fd.nl = N.length) : FSt G P fn gn f x a := by
  obtain ⟨oc, od, kV, dc, pm, an, cd, ct, sl, l, c⟩ := R.ex
  have F := fun_mk (st := st) l c R.kp
  exact ⟨hfa, PySem.W.mg_of X ng R.ns, R.kp, _, ps, N, st, fd, F, F.binds hb, S, h2, h3, h4, h5⟩
/-- a constant of the module -/
def RawC (K : PySem.W.Frag) (w : World) (x : Str) (d : D) : Prop := ∃ v u, PySem.W.nsIn K mainGlobals x = some (some u) ∧ L2.RelV v u ∧ ∀ (G : Gm) (W : Wd), G.K = K → G.w = w → RV G W v d
section
variable {K : PySem.W.Frag} {w : World} {x : Str}
theorem rawc_int {i : Int} {t : Tok} (h : PySem.W.nsIn K mainGlobals x = some (some (.int i t))) : RawC K w x (.int i) := ⟨.int i, _, h, ⟨t, rfl⟩, fun _ _ _ _ => .int i⟩
theorem rawc_str {s : List Nat} {t : Tok} (h : PySem.W.nsIn K mainGlobals x = some (some (.str ⟨s.toArray⟩ t))) : RawC K w x (.str s) := ⟨.str ⟨s.toArray⟩, _, h, ⟨t, rfl⟩, fun _ _ _ _ => .str s⟩
def okV : List Value → List D → Bool
  | [], [] => true
  | .str s _ :: vs, .str l :: ds => decide (s = ⟨l.toArray⟩) && okV vs ds
  | .int i _ :: vs, .int j :: ds => decide (i = j) && okV vs ds
  | _, _ => false
theorem okV_vals : ∀ {us : List Value} {ds : List D}, okV us ds = true → ∃ vs, Vals vs us ∧ ∀ (G : Gm) (W : Wd), RVs G W vs ds
  | [], [], _ => ⟨[], .nil, fun _ _ => .nil⟩
  | .str s t :: us, .str l :: ds, h => by
    have h : (decide (s = ⟨l.toArray⟩) && okV us ds) = true := h
    rw [Bool.and_eq_true, decide_eq_true_eq] at h
    obtain ⟨vs, h1, h2⟩ := okV_vals h.2
    exact ⟨.str s :: vs, .cons ⟨t, rfl⟩ h1, fun G W => .cons (h.1 ▸ .str l) (h2 G W)⟩
  | .int i t :: us, .int j :: ds, h => by
    have h : (decide (i = j) && okV us ds) = true := h
    rw [Bool.and_eq_true, decide_eq_true_eq] at h
    obtain ⟨vs, h1, h2⟩ := okV_vals h.2
    exact ⟨.int i :: vs, .cons ⟨t, rfl⟩ h1, fun G W => .cons (by rw [h.1]; exact .int j) (h2 G W)⟩
  | [], _ :: _, h => by cases h
  | u :: us, [], h => by cases u <;> cases h
  | u :: us, d :: ds, h => by
    cases u <;> cases d <;> first | (cases h; done) | skip
    · rename_i i t j
      have h : (decide (i = j) && okV us ds) = true := h
      rw [Bool.and_eq_true, decide_eq_true_eq] at h
      obtain ⟨vs, h1, h2⟩ := okV_vals h.2
      exact ⟨.int i :: vs, .cons ⟨t, rfl⟩ h1, fun G W => .cons (by rw [h.1]; exact .int j) (h2 G W)⟩
    · rename_i s t l
      have h : (decide (s = ⟨l.toArray⟩) && okV us ds) = true := h
      rw [Bool.and_eq_true, decide_eq_true_eq] at h
      obtain ⟨vs, h1, h2⟩ := okV_vals h.2
      exact ⟨.str s :: vs, .cons ⟨t, rfl⟩ h1, fun G W => .cons (h.1 ▸ .str l) (h2 G W)⟩
theorem rawc_tup {a : Addr} {od : Option Addr} {its : Array Value} {n : Nat} {sl : Array (Option Value)} {ds : List D} (h : PySem.W.nsIn K mainGlobals x = some (some (.ref a))) (l : K.lookup a = some ⟨.type "tuple", od, .seq its n, sl⟩)
    (z : its.size ≤ 1000) (ok : okV its.toList ds = true) : RawC K w x (.tup ds) := by
  obtain ⟨vs, h1, h2⟩ := okV_vals ok
  refine ⟨.ref a, _, h, rfl, fun G W e _ => ?_⟩
  subst e
  exact .tup (.inr ⟨_, its, n, l, rfl, rfl, Nat.le_trans z (by decide), h1⟩) (h2 G W)
end
theorem con_of {G : Gm} {h : Heap} {P : Pg} {x : Str} {i : Nat} {d : D} (X : G.K.In h) (ng : h.Ns mainGlobals G.mg) (R : RawC G.K G.w x d) (e : P.glob i = d) : ∃ v u, G.mg x = some u ∧ L2.RelV v u ∧ ∀ W, RV G W v (P.glob i) := by
  obtain ⟨v, u, h1, h2, h3⟩ := R
  exact ⟨v, u, PySem.W.mg_of X ng h1, h2, fun W => e ▸ h3 G W rfl rfl⟩
theorem blt_of {G : Gm} {h : Heap} (X : G.K.In h) (ng : h.Ns mainGlobals G.mg) (z : atAll (fun _ x => PySem.W.nsIn G.K mainGlobals x = some none) 0 blts) : ∀ x ∈ blts, G.mg x = none := fun x hx => by
  obtain ⟨i, hi⟩ := List.getElem?_of_mem hx
  exact PySem.W.mg_none_of X ng (atAll_get z hi)
theorem mf_tab {G : Gm} {P : Pg} {fn gn : List Str} (L : List (Str × Addr)) (hL : L.map (·.1) = fn) (ha : ∀ f, G.fa f = (L[f]?).map (·.2)) (st : atAll (fun f p => FSt G P fn gn f p.1 p.2) 0 L)
    (con : atAll (fun i x => ∃ v u, G.mg x = some u ∧ L2.RelV v u ∧ ∀ W, RV G W v (P.glob i)) 0 gn) (blt : ∀ x ∈ blts, G.mg x = none) : ∀ k, Mf G P fn gn k := by
  refine mf_all (fun f x h => ?_) (fun f a h => ?_) (fun i x h => ?_) blt
  · rw [← hL, List.getElem?_map] at h
    obtain ⟨p, e, rfl⟩ := Option.map_eq_some_iff.mp h
    have := atAll_get st e
    rw [Nat.zero_add] at this
    exact ⟨p.2, this⟩
  · rw [ha] at h
    obtain ⟨p, e, rfl⟩ := Option.map_eq_some_iff.mp h
    have := atAll_get st e
    rw [Nat.zero_add] at this
    exact ⟨p.1, by rw [← hL, List.getElem?_map, e]; rfl, this⟩
  · have := atAll_get con h
    rw [Nat.zero_add] at this
    exact this
end M3
/-! M4a: a calculus for the small interpreter. -/
namespace M3

def E {α : Type} (o : Option (α × Sto)) (Q : α → Sto → Prop) : Prop := ∃ x S, o = some (x, S) ∧ Q x S
def O {α : Type} (o : Option α) (Q : α → Prop) : Prop := ∃ x, o = some x ∧ Q x
def Ws (o : Option (Fl × Sl × Sto)) (Q : Fl → Sl → Sto → Prop) : Prop := ∃ f σ S, o = some (f, σ, S) ∧ Q f σ S
section
variable {α β : Type}
theorem E.mono {o : Option (α × Sto)} {Q Q' : α → Sto → Prop} (h : E o Q) (i : ∀ x S, Q x S → Q' x S) : E o Q' := let ⟨x, S, e, q⟩ := h; ⟨x, S, e, i x S q⟩
theorem Ws.mono {o : Option (Fl × Sl × Sto)} {Q Q' : Fl → Sl → Sto → Prop} (h : Ws o Q) (i : ∀ f σ S, Q f σ S → Q' f σ S) : Ws o Q' := let ⟨f, σ, S, e, q⟩ := h; ⟨f, σ, S, e, i f σ S q⟩
@[simp] theorem E_some {x : α} {S : Sto} {Q : α → Sto → Prop} : E (some (x, S)) Q ↔ Q x S := ⟨fun ⟨_, _, e, q⟩ => by cases e; exact q, fun q => ⟨_, _, rfl, q⟩⟩
@[simp] theorem E_someP {p : α × Sto} {Q : α → Sto → Prop} : E (some p) Q ↔ Q p.1 p.2 := ⟨fun ⟨_, _, e, q⟩ => by cases e; exact q, fun q => ⟨_, _, rfl, q⟩⟩
@[simp] theorem O_some {x : α} {Q : α → Prop} : O (some x) Q ↔ Q x := ⟨fun ⟨_, e, q⟩ => by cases e; exact q, fun q => ⟨_, rfl, q⟩⟩
@[simp] theorem Ws_some {f : Fl} {σ : Sl} {S : Sto} {Q : Fl → Sl → Sto → Prop} : Ws (some (f, σ, S)) Q ↔ Q f σ S := ⟨fun ⟨_, _, _, e, q⟩ => by cases e; exact q, fun q => ⟨_, _, _, rfl, q⟩⟩
@[simp] theorem E_none {Q : α → Sto → Prop} : E (none : Option (α × Sto)) Q ↔ False := ⟨fun ⟨_, _, e, _⟩ => (nomatch e), fun h => h.elim⟩
@[simp] theorem O_none {Q : α → Prop} : O (none : Option α) Q ↔ False := ⟨fun ⟨_, e, _⟩ => (nomatch e), fun h => h.elim⟩
@[simp] theorem Ws_none {Q : Fl → Sl → Sto → Prop} : Ws none Q ↔ False := ⟨fun ⟨_, _, _, e, _⟩ => (nomatch e), fun h => h.elim⟩
@[simp] theorem O_ite {c : Prop} [Decidable c] {x : α} {Q : α → Prop} : O (if c then some x else none) Q ↔ c ∧ Q x := by
  by_cases h : c <;> simp [h]
@[simp] theorem E_map {o : Option α} {f : α → β} {S : Sto} {Q : β → Sto → Prop} : E (o.map fun z => (f z, S)) Q ↔ O o fun z => Q (f z) S := by
  cases o <;> simp
@[simp] theorem O_map {o : Option α} {f : α → β} {Q : β → Prop} : O (o.map f) Q ↔ O o fun z => Q (f z) := by
  cases o <;> simp
end
section
variable {α : Type} {cf : Cf} {σ : Sl} {S : Sto} {a b : RE} {c : Sl → Sto → Option (Bool × Sto)} {Q : T → Sto → Prop} {R : Bool → Sto → Prop} {A : List T → Sto → Prop} {I : List D → Sto → Prop} {V : Fl → Sl → Sto → Prop}
theorem E_bind1 {f : T → Sto → Option (T × Sto)} : E (bind1 a f σ S) Q ↔ E (a σ S) fun x S1 => E (f x S1) Q := by
  unfold bind1
  cases a σ S <;> simp
theorem E_bind2 {f : T → T → Sto → Option (T × Sto)} : E (bind2 a b f σ S) Q ↔ E (a σ S) fun x S1 => E (b σ S1) fun y S2 => E (f x y S2) Q := by
  unfold bind2
  cases a σ S with
  | none => simp
  | some p =>
    simp
    cases b σ p.2 <;> simp
theorem E_lift1 {f : T → Option T} {x : T} : E (lift1 f x S) Q ↔ O (f x) fun z => Q z S := by unfold lift1; simp
theorem E_lift2 {f : T → T → Option T} {x y : T} : E (lift2 f x y S) Q ↔ O (f x y) fun z => Q z S := by unfold lift2; simp
theorem E_lift2b {f : T → T → Option Bool} {x y : T} : E (lift2b f x y S) Q ↔ O (f x y) fun k => Q (.v (.bl k)) S := by unfold lift2b; simp
theorem E_varE {i : Nat} : E (varE i σ S) Q ↔ ∃ d, σ[i]? = some (some (.v d)) ∧ Q (.v d) S := by
  unfold varE
  split
  · rename_i d h; simp [h]
  · rename_i h
    simp
    intro d e
    exact absurd e (h d)
theorem E_varB {i : Nat} : E (varB i σ S) Q ↔ ∃ x, σ[i]? = some (some x) ∧ Q x S := by
  unfold varB
  split
  · rename_i d h; simp [h]
  · rename_i h
    simp
    intro d e
    exact absurd e (h d)
theorem E_truthOf : E (truthOf a σ S) R ↔ E (a σ S) fun x S1 => O x.truth fun k => R k S1 := by
  unfold truthOf
  cases a σ S <;> simp
theorem E_asTest : E (asTest a σ S) R ↔ E (a σ S) fun x S1 => ∃ k, x = .v (.bl k) ∧ R k S1 := by
  unfold asTest
  cases a σ S with
  | none => exact ⟨fun h => (E_none.mp h).elim, fun h => (E_none.mp h).elim⟩
  | some p =>
    obtain ⟨x, S1⟩ := p
    show E (tst x S1) R ↔ _
    rw [E_some]
    constructor
    · rintro ⟨k, S2, e, q⟩
      unfold tst at e
      split at e
      · cases e
        exact ⟨_, rfl, q⟩
      · cases e
    · rintro ⟨k, rfl, q⟩
      exact ⟨k, S1, rfl, q⟩
theorem E_itemsR : E (itemsR a σ S) I ↔ E (a σ S) fun x S1 => O (itemsOf x) fun ds => I ds S1 := by
  unfold itemsR
  cases a σ S <;> simp
theorem E_rngR : E (rngR a σ S) I ↔ E (a σ S) fun x S1 => ∃ j : Int, x = .v (.int j) ∧ (-(2 ^ 62) ≤ j ∧ j < 2 ^ 62) ∧ I ((List.range j.toNat).map fun (k : Nat) => .int (k : Int)) S1 := by
  unfold rngR
  cases h : a σ S with
  | none => exact ⟨fun h => (E_none.mp h).elim, fun h => (E_none.mp h).elim⟩
  | some p =>
    obtain ⟨x, S1⟩ := p
    rw [E_some]
    constructor
    · rintro ⟨ds, S2, e, q⟩
      split at e
      · rename_i j S3 e2
        cases e2
        split at e
        · rename_i hj
          cases e
          exact ⟨j, rfl, hj, q⟩
        · cases e
      · cases e
    · rintro ⟨j, rfl, hj, q⟩
      exact ⟨_, S1, if_pos hj, q⟩
theorem E_andR {P : T → Sto → Prop} : E (andR a b σ S) P ↔ E (a σ S) fun x S1 => ∃ k, x = .v (.bl k) ∧ if k = true then E (b σ S1) P else P (.v (.bl false)) S1 := by
  unfold andR
  cases h : a σ S with
  | none => exact ⟨fun h => (E_none.mp h).elim, fun h => (E_none.mp h).elim⟩
  | some p =>
    obtain ⟨x, S1⟩ := p
    rw [E_some]
    constructor
    · rintro ⟨y, S2, e, q⟩
      split at e
      · rename_i S3 e2
        cases e2
        exact ⟨true, rfl, by rw [if_pos rfl]; exact ⟨y, S2, e, q⟩⟩
      · rename_i S3 e2
        cases e2
        cases e
        exact ⟨false, rfl, by rw [if_neg Bool.false_ne_true]; exact q⟩
      · cases e
    · rintro ⟨k, rfl, q⟩
      cases k with
      | true =>
        rw [if_pos rfl] at q
        exact q
      | false =>
        rw [if_neg Bool.false_ne_true] at q
        exact E_some.mpr q
theorem E_andT {b : Sl → Sto → Option (Bool × Sto)} : E (andT c b σ S) R ↔ E (c σ S) fun k S1 => if k = true then E (b σ S1) R else R false S1 := by
  unfold andT
  cases h : c σ S with
  | none => simp
  | some p =>
    obtain ⟨x, S1⟩ := p
    cases x <;> simp
theorem E_orT {b : Sl → Sto → Option (Bool × Sto)} : E (orT c b σ S) R ↔ E (c σ S) fun k S1 => if k = true then R true S1 else E (b σ S1) R := by
  unfold orT
  cases h : c σ S with
  | none => simp
  | some p =>
    obtain ⟨x, S1⟩ := p
    cases x <;> simp
theorem E_notT : E (notT c σ S) R ↔ E (c σ S) fun k S1 => R (!k) S1 := by
  unfold notT
  cases h : c σ S with
  | none => simp
  | some p => simp
theorem E_condR : E (condR c a b σ S) Q ↔ E (c σ S) fun k S1 => if k = true then E (a σ S1) Q else E (b σ S1) Q := by
  unfold condR
  cases h : c σ S with
  | none => simp
  | some p =>
    obtain ⟨x, S1⟩ := p
    cases x <;> simp
theorem E_callR {f : List D → Sto → Option (T × Sto)} {es : Sl → Sto → Option (List T × Sto)} : E (callR f es σ S) Q ↔ E (es σ S) fun xs S1 => E (f (fzs xs) S1) Q := by
  unfold callR
  cases es σ S <;> simp
theorem E_argsR {as : Sl → Sto → Option (List T × Sto)} : E (argsR a as σ S) A ↔ E (a σ S) fun x S1 => E (as σ S1) fun xs S2 => A (x :: xs) S2 := by
  unfold argsR
  cases a σ S with
  | none => simp
  | some p =>
    simp
    cases as σ p.2 <;> simp
theorem E_dispR {f : List D → Sto → T × Sto} {es : Sl → Sto → Option (List T × Sto)} : E (dispR f es σ S) Q ↔ E (es σ S) fun xs S1 => xs.length ≤ cap ∧ Q (f (fzs xs) S1).1 (f (fzs xs) S1).2 := by
  unfold dispR
  cases es σ S with
  | none => simp
  | some p =>
    obtain ⟨xs, S1⟩ := p
    rw [E_some]
    show E (if xs.length ≤ cap then some (f (fzs xs) S1) else none) Q ↔ _
    by_cases h : xs.length ≤ cap
    · rw [if_pos h, E_someP]
      exact ⟨fun q => ⟨h, q⟩, fun q => q.2⟩
    · rw [if_neg h, E_none]
      exact ⟨fun q => q.elim, fun q => (h q.1).elim⟩
theorem E_idxT {x : T} {i : Int} : E (idxT x (.v (.int i)) S) Q ↔ O (getD x i S) fun d => Q (.v d) S := by
  unfold idxT
  simp
theorem E_cutR {lo hi : Sl → Sto → Option (Option Int × Sto)} : E (cutR a lo hi σ S) Q ↔ E (a σ S) fun x S1 => E (lo σ S1) fun l S2 => E (hi σ S2) fun h S3 => O (slD x l h) fun z => Q z S3 := by
  unfold cutR
  cases a σ S with
  | none => simp
  | some p =>
    simp
    cases lo σ p.2 with
    | none => simp
    | some q =>
      simp
      cases hi σ q.2 <;> simp
theorem E_optI {m : Sm} {P : Option Int → Sto → Prop} : E (optI m σ S) P ↔ if m.isNo = true then P none S else E (m.b σ S) fun x S1 => ∃ i, x = .v (.int i) ∧ P (some i) S1 := by
  unfold optI
  cases m.isNo with
  | true => simp
  | false =>
    rw [if_neg Bool.false_ne_true, if_neg Bool.false_ne_true]
    cases h : m.b σ S with
    | none => simp
    | some p =>
      obtain ⟨x, S1⟩ := p
      rw [E_some]
      constructor
      · rintro ⟨o, S2, e, q⟩
        split at e
        · rename_i i S3 e2
          cases e2
          cases e
          exact ⟨i, rfl, q⟩
        · cases e
      · rintro ⟨i, rfl, q⟩
        exact ⟨_, _, rfl, q⟩

/-! ### statements -/
theorem Ws_seq {r r2 : RS} : Ws (seqS r r2 σ S) V ↔ Ws (r σ S) fun f σ1 S1 => match f with
    | .nx => Ws (r2 σ1 S1) V
    | f => V f σ1 S1 := by
  unfold seqS
  cases h : r σ S with
  | none => simp
  | some p =>
    obtain ⟨f, σ1, S1⟩ := p
    cases f <;> simp
theorem Ws_set {i : Nat} : Ws (setS i a σ S) V ↔ E (a σ S) fun x S1 => V .nx (σ.set i (some (.v x.fz))) S1 := by
  unfold setS
  cases a σ S <;> simp [putT]
theorem Ws_setO {i : Nat} : Ws (setOS i a σ S) V ↔ E (a σ S) fun x S1 => V .nx (σ.set i (some x)) S1 := by
  unfold setOS
  cases a σ S <;> simp [putT]
theorem Ws_setT {is : List Nat} : Ws (setTS is a σ S) V ↔ E (a σ S) fun x S1 => ∃ ds, x = .v (.tup ds) ∧ O (setAll σ is ds) fun σ1 => V .nx σ1 S1 := by
  unfold setTS
  cases h : a σ S with
  | none => simp
  | some p =>
    obtain ⟨x, S1⟩ := p
    rw [E_some]
    constructor
    · rintro ⟨f, σ2, S2, e, q⟩
      split at e
      · rename_i ds S3 e2
        cases e2
        obtain ⟨σ3, e3, e4⟩ := Option.map_eq_some_iff.mp e
        cases e4
        exact ⟨ds, rfl, _, e3, q⟩
      · cases e
    · rintro ⟨ds, rfl, σ3, e3, q⟩
      exact ⟨.nx, σ3, S1, by show (setAll σ is ds).map _ = _; rw [e3]; rfl, q⟩
theorem Ws_setI {i : Nat} {ix : RE} : Ws (setIS i ix a σ S) V ↔ E (a σ S) fun x S1 => E (ix σ S1) fun y S2 => ∃ k, y = .v (.int k) ∧ Ws (setIxS i k x.fz σ S2) V := by
  unfold setIS
  cases h : a σ S with
  | none => simp
  | some p =>
    obtain ⟨x, S1⟩ := p
    rw [E_some]
    show Ws (match ix σ S1 with
      | some (.v (.int k), S2) => setIxS i k x.fz σ S2
      | _ => none) V ↔ _
    cases h2 : ix σ S1 with
    | none => simp
    | some q =>
      obtain ⟨y, S2⟩ := q
      rw [E_some]
      constructor
      · rintro ⟨f, σ2, S3, e, q⟩
        split at e
        · rename_i k S4 e2
          cases e2
          exact ⟨k, rfl, f, σ2, S3, e, q⟩
        · cases e
      · rintro ⟨k, rfl, q⟩
        exact q
theorem Ws_aug {i : Nat} {o : B2} : Ws (augS i o a σ S) V ↔ E (varE i σ S) fun x _ => E (a σ S) fun y S1 => O (augT o x y) fun z => V .nx (σ.set i (some z)) S1 := by
  unfold augS
  cases varE i σ S with
  | none => simp
  | some p =>
    simp
    cases a σ S with
    | none => simp
    | some q =>
      simp
      cases augT o p.1 q.1 <;> simp [putT]
theorem Ws_app {i : Nat} : Ws (app1S i a σ S) V ↔ E (a σ S) fun x S1 => Ws (appS i [x.fz] σ S1) V := by
  unfold app1S
  cases a σ S <;> simp
theorem Ws_ex : Ws (exS a σ S) V ↔ E (a σ S) fun _ S1 => V .nx σ S1 := by
  unfold exS
  cases a σ S <;> simp
theorem Ws_ret : Ws (retS a σ S) V ↔ E (a σ S) fun x S1 => V (.rt x) σ S1 := by
  unfold retS
  cases a σ S <;> simp
theorem Ws_if {r r2 : RS} : Ws (ifS c r r2 σ S) V ↔ E (c σ S) fun k S1 => if k = true then Ws (r σ S1) V else Ws (r2 σ S1) V := by
  unfold ifS
  cases h : c σ S with
  | none => simp
  | some p =>
    obtain ⟨x, S1⟩ := p
    cases x <;> simp
theorem Ws_for {p : Pat} {it : Sl → Sto → Option (List D × Sto)} {r : RS} : Ws (forS p it r σ S) V ↔ E (it σ S) fun ds S1 => Ws (forL p r ds σ S1) V := by
  unfold forS
  cases it σ S <;> simp
theorem Ws_frz {i : Nat} : Ws (frzS i σ S) V ↔ ∃ x, σ[i]? = some (some x) ∧ V .nx (σ.set i (some (.v x.fz))) S := by
  unfold frzS
  split
  · rename_i x h
    simp [h]
  · rename_i h
    simp
    intro d e
    exact absurd e (h d)
theorem ws_loop {p : Pat} {r : RS} {ds : List D} (J : Nat → Sl → Sto → Prop) (step : ∀ i d σ S, ds[i]? = some d → J i σ S → O (p.put d σ) fun σ1 => Ws (r σ1 S) fun f σ2 S2 => match f with
      | .nx => J (i + 1) σ2 S2
      | .ct => J (i + 1) σ2 S2
      | .bk => V .nx σ2 S2
      | .rt x => V (.rt x) σ2 S2) (hend : ∀ σ S, J ds.length σ S → V .nx σ S) : ∀ (es : List D) (i : Nat) {σ : Sl} {S : Sto}, es = ds.drop i → i ≤ ds.length → J i σ S → Ws (forL p r es σ S) V
  | [], i, σ, S, h, hi, j => by
    have hl := congrArg List.length h
    rw [List.length_drop] at hl
    have hl : 0 = ds.length - i := hl
    have e : i = ds.length := by omega
    subst e
    unfold forL
    simp
    exact hend σ S j
  | e :: es, i, σ, S, h, hi, j => by
    have hl := congrArg List.length h
    rw [List.length_drop] at hl
    have hlt : i < ds.length := by
      have hl : es.length + 1 = ds.length - i := hl
      omega
    have hd : ds.drop i = ds[i] :: ds.drop (i + 1) := List.drop_eq_getElem_cons hlt
    rw [hd] at h
    obtain ⟨h1, h2⟩ := List.cons.inj h
    have hg : ds[i]? = some e := by rw [List.getElem?_eq_getElem hlt, h1]
    obtain ⟨σ1, e1, f, σ2, S2, e2, q⟩ := step i e σ S hg j
    unfold forL
    rw [e1]
    show Ws (match r σ1 S with
      | some (.nx, σ2, S2) => forL p r es σ2 S2
      | some (.ct, σ2, S2) => forL p r es σ2 S2
      | some (.bk, σ2, S2) => some (.nx, σ2, S2)
      | some (.rt x, σ2, S2) => some (.rt x, σ2, S2)
      | none => none) V
    rw [e2]
    cases f with
    | nx => exact ws_loop J step hend es (i + 1) h2 hlt q
    | ct => exact ws_loop J step hend es (i + 1) h2 hlt q
    | bk => exact Ws_some.mpr q
    | rt x => exact Ws_some.mpr q
theorem ws_forL {p : Pat} {r : RS} {ds : List D} (J : Nat → Sl → Sto → Prop) (h : J 0 σ S) (step : ∀ i d σ S, ds[i]? = some d → J i σ S → O (p.put d σ) fun σ1 => Ws (r σ1 S) fun f σ2 S2 => match f with
      | .nx => J (i + 1) σ2 S2
      | .ct => J (i + 1) σ2 S2
      | .bk => V .nx σ2 S2
      | .rt x => V (.rt x) σ2 S2) (hend : ∀ σ S, J ds.length σ S → V .nx σ S) : Ws (forL p r ds σ S) V :=
  ws_loop J step hend ds 0 rfl (Nat.zero_le _) h
theorem ws_while {r : RS} (J : Nat → Sl → Sto → Prop) (step : ∀ m σ S, J m σ S → E (c σ S) fun k S1 => if k = true then Ws (r σ S1) (fun f σ2 S2 => match f with
      | .nx => ∃ m', m' < m ∧ J m' σ2 S2
      | .ct => ∃ m', m' < m ∧ J m' σ2 S2
      | .bk => V .nx σ2 S2
      | .rt x => V (.rt x) σ2 S2) else V .nx σ S1) : ∀ (n m : Nat) {σ : Sl} {S : Sto}, J m σ S → m < n → Ws (whileL c r n σ S) V
  | 0, m, σ, S, _, h => absurd h (Nat.not_lt_zero _)
  | n + 1, m, σ, S, j, h => by
    obtain ⟨k, S1, e1, q⟩ := step m σ S j
    unfold whileL
    rw [e1]
    cases k with
    | false => exact Ws_some.mpr (by simpa using q)
    | true =>
      obtain ⟨f, σ2, S2, e2, q⟩ := (show Ws (r σ S1) _ by simpa using q)
      show Ws (match r σ S1 with
        | some (.nx, σ2, S2) => whileL c r n σ2 S2
        | some (.ct, σ2, S2) => whileL c r n σ2 S2
        | some (.bk, σ2, S2) => some (.nx, σ2, S2)
        | some (.rt x, σ2, S2) => some (.rt x, σ2, S2)
        | none => none) V
      rw [e2]
      cases f with
      | nx =>
        obtain ⟨m', hm, j'⟩ := q
        exact ws_while J step n m' j' (by omega)
      | ct =>
        obtain ⟨m', hm, j'⟩ := q
        exact ws_while J step n m' j' (by omega)
      | bk => exact Ws_some.mpr q
      | rt x => exact Ws_some.mpr q
end
/-- a call, by its body -/
theorem E_call {P : Pg} {k f : Nat} {args : List D} {S : Sto} {Q : T → Sto → Prop} {fd : FD} (h : P.fds[f]? = some fd) (hl : args.length = fd.np) (b : Ws (execs (P.cf k) fd.body (startS fd args) S) fun f _ S1 => match f with
    | .rt x => Q x S1
    | .nx => Q (.v .non) S1
    | _ => False) : E (call P (k + 1) f args S) Q := by
  obtain ⟨f', σ, S1, e, q⟩ := b
  rw [call_succ, h]
  show E (runF (P.cf k) fd args S) Q
  unfold runF
  rw [if_pos hl, e]
  cases f' with
  | rt x => exact E_some.mpr q
  | nx => exact E_some.mpr q
  | bk => exact q.elim
  | ct => exact q.elim
end M3
/-! M4b: operators in the calculus. -/
namespace M3
section
variable {S : Sto} {Q : T → Prop} {B : Bool → Prop} {G : D → Prop} {i j : Int} {s t : List Nat}
theorem O_add_int : O (B2.run .add (.v (.int i)) (.v (.int j))) Q ↔ Q (.v (.int (i + j))) := O_some
theorem O_sub_int : O (B2.run .sub (.v (.int i)) (.v (.int j))) Q ↔ Q (.v (.int (i - j))) := O_some
theorem O_add_str : O (B2.run .add (.v (.str s)) (.v (.str t))) Q ↔ s.length + t.length ≤ cap ∧ Q (.v (.str (s ++ t))) := O_ite
theorem O_mul_int : O (B2.run .mul (.v (.int i)) (.v (.int j))) Q ↔ (big i || big j) = true ∧ Q (.v (.int (i * j))) := O_ite
theorem O_mul_str {c : Nat} : O (B2.run .mul (.v (.str [c])) (.v (.int j))) Q ↔ (0 ≤ j ∧ j ≤ 1000) ∧ Q (.v (.str (List.replicate j.toNat c))) := O_ite
theorem O_fdiv_int : O (B2.run .fdiv (.v (.int i)) (.v (.int j))) Q ↔ (0 < j ∧ j < 1073741824) ∧ Q (.v (.int (i / j))) := O_ite
theorem O_mod_int : O (B2.run .mod (.v (.int i)) (.v (.int j))) Q ↔ 0 < j ∧ Q (.v (.int (i % j))) := O_ite
theorem O_pow1018 : O (B2.run .pow (.v (.int 10)) (.v (.int 18))) Q ↔ Q (.v (.int 1000000000000000000)) := O_some
theorem O_lt_int : O (C2.run .lt (.v (.int i)) (.v (.int j))) B ↔ B (decide (i < j)) := O_some
theorem O_le_int : O (C2.run .le (.v (.int i)) (.v (.int j))) B ↔ B (decide (i ≤ j)) := O_some
theorem O_gt_int : O (C2.run .gt (.v (.int i)) (.v (.int j))) B ↔ B (decide (j < i)) := O_some
theorem O_ge_int : O (C2.run .ge (.v (.int i)) (.v (.int j))) B ↔ B (decide (j ≤ i)) := O_some
theorem O_eq_int : O (C2.run .eq (.v (.int i)) (.v (.int j))) B ↔ B (decide (i = j)) := O_some
theorem O_eq_str : O (C2.run .eq (.v (.str s)) (.v (.str t))) B ↔ B (decide (s = t)) := O_some
theorem O_ne_str : O (C2.run .ne (.v (.str s)) (.v (.str t))) B ↔ B (!decide (s = t)) := O_some
theorem O_in_ch {c : Nat} : O (C2.run .isIn (.v (.str [c])) (.v (.str s))) B ↔ B (decide (c ∈ s)) := O_some
theorem O_int_int : O (P1.run .int (.v (.int i))) Q ↔ Q (.v (.int i)) := O_some
theorem O_abs_int : O (P1.run .abs (.v (.int i))) Q ↔ Q (.v (.int (if i < 0 then -i else i))) := O_some
theorem O_len_str : O (P1.run .len (.v (.str s))) Q ↔ s.length ≤ cap ∧ Q (.v (.int s.length)) := O_ite
theorem O_len_own {xs : List D} : O (P1.run .len (.own xs)) Q ↔ Q (.v (.int xs.length)) := O_some
theorem O_len_lst {xs : List D} : O (P1.run .len (.v (.lst xs))) Q ↔ Q (.v (.int xs.length)) := O_some
theorem O_str_int : O (P1.run .str (.v (.int i))) Q ↔ i.natAbs.log2 < 1920 ∧ Q (.v (.str (decI i))) := O_ite
theorem O_tuple_own {xs : List D} : O (P1.run .tuple (.own xs)) Q ↔ Q (.v (.tup xs)) := O_some
theorem O_aug_add : O (augT .add (.v (.int i)) (.v (.int j))) Q ↔ Q (.v (.int (i + j))) := O_some
theorem O_max2 : O (max2T (.v (.int i)) (.v (.int j))) Q ↔ Q (.v (.int (if j > i then j else i))) := O_some
theorem O_bind_ {α β : Type} {o : Option α} {f : α → Option β} {R : β → Prop} : O (o.bind f) R ↔ O o fun x => O (f x) R := by
  cases o <;> simp
theorem O_get_ref {r : Nat} : O (getD (.v (.ref r)) i S) G ↔ O (S[r]?) fun xs => O (ixOf xs.length i) fun j => O (xs[j]?) G := by
  show O ((S[r]?).bind _) G ↔ _
  simp only [O_bind_]
theorem O_get_own {xs : List D} : O (getD (.own xs) i S) G ↔ O (ixOf xs.length i) fun j => O (xs[j]?) G := by
  show O ((ixOf xs.length i).bind _) G ↔ _
  simp only [O_bind_]
theorem O_get_tup {xs : List D} : O (getD (.v (.tup xs)) i S) G ↔ O (ixOf xs.length i) fun j => O (xs[j]?) G := by
  show O ((ixOf xs.length i).bind _) G ↔ _
  simp only [O_bind_]
theorem O_get_lst {xs : List D} : O (getD (.v (.lst xs)) i S) G ↔ O (ixOf xs.length i) fun j => O (xs[j]?) G := by
  show O ((ixOf xs.length i).bind _) G ↔ _
  simp only [O_bind_]
theorem O_get_str : O (getD (.v (.str s)) i S) G ↔ s.length ≤ cap ∧ O (ixOf s.length i) fun j => O (s[j]?) fun c => G (.str [c]) := by
  show O (if s.length ≤ cap then (((ixOf s.length i).bind fun j => s[j]?).map fun c => .str [c]) else none) G ↔ _
  by_cases h : s.length ≤ cap
  · rw [if_pos h]
    simp only [O_map, O_bind_, h, true_and]
  · rw [if_neg h]
    simp [h]
theorem ix_nat {n k : Nat} {J : Nat → Prop} (h : k < n) : O (ixOf n (k : Int)) J ↔ J k := by
  show O (L2.ixN n k) J ↔ _
  unfold L2.ixN
  rw [if_pos (Int.natCast_nonneg k), if_pos (by omega)]
  simp
theorem O_sl_str {lo hi : Option Int} : O (slD (.v (.str s)) lo hi) Q ↔ s.length ≤ cap ∧ Q (.v (.str (cut s lo hi))) := O_ite
theorem O_truth_own {xs : List D} : O (T.truth (.own xs)) B ↔ B (!xs.isEmpty) := O_some
theorem O_truth_bl {b : Bool} : O (T.truth (.v (.bl b))) B ↔ B b := O_some
theorem O_itemsOf_tup {xs : List D} {L : List D → Prop} : O (itemsOf (.v (.tup xs))) L ↔ L xs := O_some
theorem Ws_setTape {k : Int} {d : D} {σ : Sl} {xs : List D} {V : Fl → Sl → Sto → Prop} : Ws (setIxS 0 k d (some (.v (.ref 0)) :: σ) [xs]) V ↔ O (ixOf xs.length k) fun j => V .nx (some (.v (.ref 0)) :: σ) [xs.set j d] := by
  show Ws ((ixOf xs.length k).map _) V ↔ _
  cases ixOf xs.length k <;> simp
theorem ix_0 {α : Type} {a : α} {l : List α} {J : Nat → Prop} : O (ixOf (a :: l).length 0) J ↔ J 0 := ix_nat (k := 0) (Nat.succ_pos _)
theorem ix_1 {α : Type} {a b : α} {l : List α} {J : Nat → Prop} : O (ixOf (a :: b :: l).length 1) J ↔ J 1 := ix_nat (k := 1) (by simp)
theorem ix_2 {α : Type} {a b c : α} {l : List α} {J : Nat → Prop} : O (ixOf (a :: b :: c :: l).length 2) J ↔ J 2 := ix_nat (k := 2) (by simp)
theorem ix_3 {α : Type} {a b c d : α} {l : List α} {J : Nat → Prop} : O (ixOf (a :: b :: c :: d :: l).length 3) J ↔ J 3 := ix_nat (k := 3) (by simp)
theorem Ws_appS {i : Nat} {ds : List D} {σ : Sl} {V : Fl → Sl → Sto → Prop} : Ws (appS i ds σ S) V ↔ ∃ xs, σ[i]? = some (some (.own xs)) ∧ xs.length + ds.length ≤ cap ∧ V .nx (σ.set i (some (.own (xs ++ ds)))) S := by
  unfold appS
  split
  · rename_i xs h
    rw [h]
    by_cases q : xs.length + ds.length ≤ cap
    · rw [if_pos q]
      simp [q]
    · rw [if_neg q]
      simp [q]
  · rename_i h
    constructor
    · intro q; simp at q
    · rintro ⟨xs, e, _⟩
      exact absurd e (h xs)
theorem O_itemsOf_scr {xs : List Int} {L : List D → Prop} : O (itemsOf (.v (.scr xs))) L ↔ L (xs.map .int) := O_some
theorem O_list_scr {xs : List Int} : O (P1.run .list (.v (.scr xs))) Q ↔ Q (.own (xs.map .int)) := O_some
theorem O_put1 {i : Nat} {d : D} {σ : Sl} {L : Sl → Prop} : O (Pat.put (.one i) d σ) L ↔ L (σ.set i (some (.v d))) := O_some
theorem pick {α : Type} {xs : List α} {i : Int} {R : α → Prop} (h0 : 0 ≤ i) (h1 : i < xs.length) (h : ∀ d ∈ xs, R d) : O (ixOf xs.length i) fun j => O (xs[j]?) R := by
  obtain ⟨n, rfl⟩ := Int.eq_ofNat_of_zero_le h0
  have hn : n < xs.length := by omega
  rw [ix_nat hn, List.getElem?_eq_getElem hn, O_some]
  exact h _ (List.getElem_mem hn)
theorem pickP {α : Type} {xs : List α} {i : Int} {R : α → Prop} (P : α → Prop) (h0 : 0 ≤ i) (h1 : i < xs.length) (hP : ∀ d ∈ xs, P d) (h : ∀ d, P d → R d) : O (ixOf xs.length i) fun j => O (xs[j]?) R :=
  pick h0 h1 fun d hd => h d (hP d hd)
theorem ws_range {p : Pat} {r : RS} {n : Nat} {σ : Sl} {V : Fl → Sl → Sto → Prop} (J : Nat → Sl → Sto → Prop) (h : J 0 σ S) (step : ∀ i σ S, i < n → J i σ S → O (p.put (.int (i : Int)) σ) fun σ1 => Ws (r σ1 S) fun f σ2 S2 => match f with
      | .nx => J (i + 1) σ2 S2
      | .ct => J (i + 1) σ2 S2
      | .bk => V .nx σ2 S2
      | .rt x => V (.rt x) σ2 S2) (hend : ∀ σ S, J n σ S → V .nx σ S) : Ws (forL p r ((List.range n).map fun (k : Nat) => .int (k : Int)) σ S) V := by
  refine ws_forL J h (fun i d σ S hd j => ?_) fun σ S j => ?_
  · rw [List.getElem?_map] at hd
    obtain ⟨m, hm, rfl⟩ := Option.map_eq_some_iff.mp hd
    obtain ⟨hlt, hv⟩ := List.getElem?_eq_some_iff.mp hm
    rw [List.length_range] at hlt
    rw [List.getElem_range] at hv
    subst hv
    exact step i σ S hlt j
  · rw [List.length_map, List.length_range] at j
    exact hend σ S j
theorem inD_own {w : List Nat} {ys : List D} (h : ys.all D.flat = true) : inD (.str w) (.own ys) = some (ys.any fun y => y.feq (.str w)) := by
  have e : inD (.str w) (.own ys) = (if ((D.str w).flat && ys.all D.flat) = true then some (ys.any fun y => y.feq (.str w)) else none) := by
    cases w with
    | nil => rfl
    | cons c r => cases r <;> rfl
  rw [e, h]
  rfl
theorem O_in_own {w : List Nat} {ys : List D} (h : ys.all D.flat = true) : O (C2.run .isIn (.v (.str w)) (.own ys)) B ↔ B (ys.any fun y => y.feq (.str w)) := by
  show O (inD (.str w) (.own ys)) B ↔ _
  rw [inD_own h]
  exact O_some
theorem any_str {w : List Nat} {ys : List D} {P : List Nat → Bool} (hP : ys.all (fun d => match d with | .str s => P s | _ => true) = true) (h : (ys.any fun y => y.feq (.str w)) = true) : P w = true := by
  obtain ⟨d, hd, e⟩ := List.any_eq_true.mp h
  have q := List.all_eq_true.mp hP d hd
  cases d <;> first | (cases e; done) | skip
  rename_i s
  have e : (s == w) = true := e
  rw [beq_iff_eq] at e
  subst e
  exact q
end
theorem E_call2 {P : Pg} {k f : Nat} {args : List D} {S : Sto} {Q : T → Sto → Prop} {fd : FD} {σ : Sl} (h : P.fds[f]? = some fd) (hl : args.length = fd.np) (hs : startS fd args = σ) (b : Ws (execs (P.cf k) fd.body σ S) fun f _ S1 => match f with
    | .rt x => Q x S1
    | .nx => Q (.v .non) S1
    | _ => False) : E (call P (k + 1) f args S) Q := E_call h hl (hs ▸ b)
end M3
/-! M4c: repr gives a text. -/
namespace M3
open PySem PySem.PyData
mutual
def okD : D → Bool
  | .non => true
  | .bl _ => true
  | .int i => decide (0 ≤ i) && decide (i < 10000000000)
  | .str s => s.all fun c => decide (c < 4294967296)
  | .tup xs => okDs xs
  | .lst xs => okDs xs
  | _ => false
def okDs : List D → Bool
  | [] => true
  | x :: xs => okD x && okDs xs
end
mutual
def roomD : D → Nat
  | .str s => 10 * s.length + 2
  | .tup xs => roomDs xs + 3
  | .lst xs => roomDs xs + 3
  | _ => 10
def roomDs : List D → Nat
  | [] => 0
  | x :: xs => roomD x + 2 + roomDs xs
end
mutual
def depD : D → Nat
  | .tup xs => depDs xs + 1
  | .lst xs => depDs xs + 1
  | _ => 0
def depDs : List D → Nat
  | [] => 0
  | x :: xs => max (depD x) (depDs xs)
end
theorem tupText_le (ts : List Str) : (tupleText ts).length ≤ piled ts + 3 := by
  unfold tupleText
  rw [strLen_append, strLen_append]
  have e1 : ((("(" : String) : Str)).length = 1 := rfl
  have e3 : (((if ts.length == 1 then ",)" else ")" : String) : Str)).length ≤ 2 := by split <;> decide
  rw [e1]
  by_cases h : ts = []
  · subst h
    have : (Str.join ", " []).length = 0 := rfl
    omega
  · have := join_length_add ts h
    omega
theorem textFrom_le : ∀ (ts : List Str) (k : Nat) (acc : Str), (textFrom k acc ts).length ≤ acc.length + piled ts
  | [], k, acc => Nat.le_refl _
  | t :: r, k, acc => by
    have h := textFrom_le r (k + 1) (acc ++ (if k > 0 then ", " else "" : String) ++ t)
    rw [strLen_append, strLen_append] at h
    have e : (((if k > 0 then ", " else "" : String) : Str)).length ≤ 2 := by split <;> decide
    rw [piled_cons]
    show (textFrom (k + 1) (acc ++ (if k > 0 then ", " else "" : String) ++ t) r).length ≤ _
    omega
theorem lstText_le (ts : List Str) : (listText ts).length ≤ piled ts + 3 := by
  unfold listText
  rw [strLen_append]
  have h := textFrom_le ts 0 "["
  have e1 : ((("[" : String) : Str)).length = 1 := rfl
  have e2 : ((("]" : String) : Str)).length = 1 := rfl
  rw [e1] at h
  rw [e2]
  omega
mutual
theorem okD_shows : ∀ {d : D}, okD d = true → ∃ p, D.py d = some p ∧ showable p = true ∧ p.depth = depD d ∧ p.shown.length ≤ roomD d
  | .non, _ => ⟨.none, rfl, by simp only [showable], by simp only [PyData.depth, depD], by simp only [shown]; decide⟩
  | .bl b, _ => ⟨.bool b, rfl, by simp only [showable], by simp only [PyData.depth, depD], by simp only [shown]; cases b <;> decide⟩
  | .int i, h => by
    have h : (decide (0 ≤ i) && decide (i < 10000000000)) = true := h
    rw [Bool.and_eq_true, decide_eq_true_eq, decide_eq_true_eq] at h
    refine ⟨.int i, rfl, ?_, by simp only [PyData.depth, depD], ?_⟩
    · simp only [showable, decide_eq_true_eq]
      by_cases z : i.natAbs = 0
      · rw [z]; decide
      · have : i.natAbs.log2 < 34 := (Nat.log2_lt z).mpr (by omega)
        omega
    · simp only [shown]
      exact PySem.W.KT.len_num h.1 (by omega)
  | .str s, h => by
    have h : (s.all fun c => decide (c < 4294967296)) = true := h
    refine ⟨.str ⟨s.toArray⟩, rfl, by simp only [showable], by simp only [PyData.depth, depD], ?_⟩
    simp only [shown]
    refine Nat.le_trans (PySem.StrLaws.reprText_len ⟨s.toArray⟩ fun c hc => ?_) ?_
    · have := List.all_eq_true.mp h c hc
      rw [decide_eq_true_eq] at this
      exact this
    · show 10 * s.toArray.size + 2 ≤ 10 * s.length + 2
      rw [List.size_toArray]
      exact Nat.le_refl _
  | .tup xs, h => by
    obtain ⟨ps, h1, h2, h3, h4⟩ := okDs_shows (show okDs xs = true from h)
    refine ⟨.tuple ps, ?_, by simp only [showable]; exact h2, by simp only [PyData.depth, depD, h3], ?_⟩
    · show (D.pyAll xs).map PyData.tuple = _
      rw [h1]
      rfl
    · simp only [shown]
      have := tupText_le (shownAll ps)
      show _ ≤ roomDs xs + 3
      omega
  | .lst xs, h => by
    obtain ⟨ps, h1, h2, h3, h4⟩ := okDs_shows (show okDs xs = true from h)
    refine ⟨.list ps, ?_, by simp only [showable]; exact h2, by simp only [PyData.depth, depD, h3], ?_⟩
    · show (D.pyAll xs).map PyData.list = _
      rw [h1]
      rfl
    · simp only [shown]
      have := lstText_le (shownAll ps)
      show _ ≤ roomDs xs + 3
      omega
  | .scr _, h => by cases h
  | .kst _, h => by cases h
  | .fn _, h => by cases h
  | .ty _, h => by cases h
  | .ref _, h => by cases h
theorem okDs_shows : ∀ {ds : List D}, okDs ds = true → ∃ ps, D.pyAll ds = some ps ∧ showableAll ps = true ∧ PyData.depthAll ps = depDs ds ∧ piled (shownAll ps) ≤ roomDs ds
  | [], _ => ⟨[], rfl, by simp only [showableAll], by simp only [PyData.depthAll, depDs], by simp only [shownAll]; exact Nat.le_refl _⟩
  | d :: ds, h => by
    have h : (okD d && okDs ds) = true := h
    rw [Bool.and_eq_true] at h
    obtain ⟨p, a1, a2, a3, a4⟩ := okD_shows h.1
    obtain ⟨ps, b1, b2, b3, b4⟩ := okDs_shows h.2
    refine ⟨p :: ps, ?_, ?_, ?_, ?_⟩
    · show (match D.py d, D.pyAll ds with
        | some d, some ds => some (d :: ds)
        | _, _ => none) = _
      rw [a1, b1]
    · simp only [showableAll, a2, b2, Bool.and_self]
    · simp only [PyData.depthAll, depDs, a3, b3]
    · simp only [shownAll]
      rw [piled_cons]
      show _ ≤ roomD d + 2 + roomDs ds
      omega
end
theorem repr_tup {ds : List D} (h : okDs ds = true) (hr : roomDs ds ≤ 10000) (hd : depDs ds ≤ 90) : ∃ s, reprD (.tup ds) = some s := by
  obtain ⟨p, h1, h2, h3, h4⟩ := okD_shows (d := .tup ds) h
  refine ⟨p.shown.cps.toList, ?_⟩
  show (match D.py (.tup ds) with
    | some d => if PyData.showable d = true ∧ d.depth ≤ 100 ∧ d.shown.length ≤ cap then some d.shown.cps.toList else none
    | Option.none => Option.none) = _
  rw [h1]
  have e1 : depD (.tup ds) = depDs ds + 1 := rfl
  have e2 : roomD (.tup ds) = roomDs ds + 3 := rfl
  have c : 20000 ≤ cap := by decide
  exact if_pos ⟨h2, by omega, by omega⟩
end M3
namespace Law
open PySem PySem.Spec PyProof.Rows L2 M3
/-- run_end(text, start, characters, end) -/
def c_run_end : FD := ⟨3, 4, [.set 3 (.var 1),
 .whl (.and (.cmp .lt (.var 3) (.p1 .len (.var 0))) (.cmp .isIn (.idx (.var 0) (.var 3)) (.var 2))) [.aug 3 .add (.int 1)],
 .ret (.var 3)]⟩
/-- word_from(text, start, end) -/
def c_word_from : FD := ⟨2, 3, [.set 2 (.call 0 [(.var 0), (.var 1), (.glob 2)]),
 .ifs (.cmp .gt (.bin .sub (.var 2) (.var 1)) (.glob 4)) [.never] [],
 .ret (.tup [(.tup [(.str [119, 111, 114, 100]), (.sl (.var 0) (.var 1) (.var 2)), (.var 1)]), (.var 2)])]⟩
/-- number_from(text, start, end, number) -/
def c_number_from : FD := ⟨2, 4, [.set 2 (.call 0 [(.var 0), (.var 1), (.glob 1)]),
 .ifs (.cmp .gt (.bin .sub (.var 2) (.var 1)) (.glob 5)) [.never] [],
 .set 3 (.p1 .int (.sl (.var 0) (.var 1) (.var 2))),
 .ifs (.cmp .gt (.var 3) (.glob 6)) [.never] [],
 .ret (.tup [(.tup [(.str [110, 117, 109, 98, 101, 114]), (.var 3), (.var 1)]), (.var 2)])]⟩
/-- string_from(text, start, characters, end) -/
def c_string_from : FD := ⟨2, 4, [.setO 2 (.lst []),
 .set 3 (.bin .add (.var 1) (.int 1)),
 .whl (.cmp .lt (.var 3) (.p1 .len (.var 0))) [.ifs (.cmp .eq (.idx (.var 0) (.var 3)) (.str [10])) [.never] [],
 .ifs (.cmp .eq (.idx (.var 0) (.var 3)) (.str [39])) [.aug 3 .add (.int 1),
 .ifs (.cmp .ne (.sl (.var 0) (.var 3) (.bin .add (.var 3) (.int 1))) (.str [39])) [.ifs (.cmp .gt (.p1 .len (.var 2)) (.glob 7)) [.never] [],
 .ret (.tup [(.tup [(.str [115, 116, 114, 105, 110, 103]), (.join (.str []) (.var 2)), (.var 1)]), (.var 3)])] []] [],
 .app 2 (.idx (.var 0) (.var 3)),
 .aug 3 .add (.int 1)],
 .never]⟩
/-- symbol_from(text, start, symbol, end) -/
def c_symbol_from : FD := ⟨2, 4, [.for1 (.one 2) (.glob 3) [.set 3 (.bin .add (.var 1) (.p1 .len (.var 2))),
 .ifs (.cmp .eq (.sl (.var 0) (.var 1) (.var 3)) (.var 2)) [.ret (.tup [(.tup [(.str [115, 121, 109, 98, 111, 108]), (.var 2), (.var 1)]), (.var 3)])] []],
 .never]⟩
/-- tokens_of(text, tokens, at, token) -/
def c_tokens_of : FD := ⟨1, 4, [.setO 1 (.lst []),
 .set 2 (.int 0),
 .whl (.cmp .lt (.var 2) (.p1 .len (.var 0))) [.ifs (.cmp .isIn (.idx (.var 0) (.var 2)) (.str [32, 10])) [.aug 2 .add (.int 1),
 .cnt] [],
 .ifs (.cmp .isIn (.idx (.var 0) (.var 2)) (.glob 0)) [.setT [3, 2] (.call 1 [(.var 0), (.var 2)])] [.ifs (.cmp .isIn (.idx (.var 0) (.var 2)) (.glob 1)) [.setT [3, 2] (.call 2 [(.var 0), (.var 2)])] [.ifs (.cmp .eq (.idx (.var 0) (.var 2)) (.str [39])) [.setT [3, 2] (.call 3 [(.var 0), (.var 2)])] [.setT [3, 2] (.call 4 [(.var 0), (.var 2)])]]],
 .app 1 (.var 3)],
 .ret (.p1 .tuple (.var 1))]⟩
/-- law_tape(law_script, law_total, law_cell) -/
def c_law_tape : FD := ⟨1, 3, [.set 1 (.int 7),
 .for1 (.one 2) (.var 0) [.set 1 (.bin .mod (.p1 .int (.bin .add (.bin .mul (.var 1) (.int 31)) (.p1 .abs (.p1 .int (.var 2))))) (.int 2147483647))],
 .ret (.tape [(.p1 .list (.var 0)), (.int 0), (.int 0), (.var 1)])]⟩
/-- law_draw(law_tape_here, law_many, law_place, law_number) -/
def c_law_draw : FD := ⟨2, 4, [.ifs (.cmp .eq (.idx (.var 0) (.int 2)) (.int 0)) [.set 2 (.idx (.var 0) (.int 1)),
 .set 3 (.int 0),
 .ifs (.cmp .lt (.var 2) (.p1 .len (.idx (.var 0) (.int 0)))) [.set 3 (.p1 .abs (.p1 .int (.idx (.idx (.var 0) (.int 0)) (.var 2))))] [.setIx 0 (.int 3) (.bin .mod (.p1 .int (.bin .add (.bin .add (.bin .mul (.idx (.var 0) (.int 3)) (.int 48271)) (.var 2)) (.int 1))) (.int 2147483647)),
 .set 3 (.idx (.var 0) (.int 3))],
 .setIx 0 (.int 1) (.bin .add (.var 2) (.int 1)),
 .ifs (.cmp .lt (.var 3) (.bin .pow (.int 10) (.int 18))) [.set 3 (.bin .mod (.p1 .int (.bin .add (.bin .add (.bin .mul (.var 3) (.int 48271)) (.bin .mul (.var 2) (.int 69621))) (.int 5))) (.int 2147483647)),
 .set 3 (.bin .mod (.p1 .int (.bin .mul (.var 3) (.int 69621))) (.int 2147483629)),
 .ret (.bin .mod (.p1 .int (.var 3)) (.max2 (.var 1) (.int 1)))] [],
 .setIx 0 (.int 2) (.var 3)] [],
 .set 3 (.idx (.var 0) (.int 2)),
 .setIx 0 (.int 2) (.bin .fdiv (.var 3) (.max2 (.var 1) (.int 2))),
 .ret (.bin .mod (.p1 .int (.var 3)) (.max2 (.var 1) (.int 1)))]⟩
/-- law_name(law_tape_here, law_signs_here, law_number, law_name_here, law_k) -/
def c_law_name : FD := ⟨1, 5, [.set 1 (.str [97, 98, 99, 100, 101, 102, 103, 104, 105, 106, 107, 108, 109, 110, 111, 112, 113, 114, 115, 116, 117, 118, 119, 120, 121, 122, 48, 49, 50, 51, 52, 53, 54, 55, 56, 57, 95]),
 .set 2 (.call 7 [(.var 0), (.int 569504)]),
 .set 3 (.bin .add (.idx (.lst [(.str []), (.str []), (.str []), (.str [114, 101, 115, 101, 114, 118, 97, 116, 105, 111, 110, 95, 120])]) (.bin .mod (.p1 .int (.var 2)) (.int 4))) (.idx (.var 1) (.bin .mod (.p1 .int (.bin .fdiv (.var 2) (.int 16))) (.int 26)))),
 .for1 (.one 4) (.iRng (.idx (.lst [(.int 0), (.int 0), (.int 1), (.int 2)]) (.bin .mod (.p1 .int (.bin .fdiv (.var 2) (.int 4))) (.int 4)))) [.set 3 (.bin .add (.var 3) (.idx (.var 1) (.bin .mod (.p1 .int (.bin .fdiv (.var 2) (.idx (.lst [(.int 416), (.int 15392)]) (.var 4)))) (.int 37))))],
 .ifs (.cmp .isIn (.var 3) (.lst [(.str [107, 101, 121]), (.str [116, 111]), (.str [98, 121]), (.str [115, 117, 109]), (.str [115, 101, 116]), (.str [97, 110, 100]), (.str [111, 114]), (.str [110, 111, 116]), (.str [111, 110, 101]), (.str [111, 102])])) [.ret (.bin .add (.var 3) (.str [95]))] [],
 .ret (.var 3)]⟩
/-- law_signs(law_signs_here) -/
def c_law_signs : FD := ⟨0, 1, [.set 0 (.str [32, 33, 34, 35, 36, 38, 39, 40, 41, 42, 43, 44, 45, 46, 47, 48, 49, 50, 51, 52, 53, 54, 55, 56, 57, 58, 59, 60, 61, 62, 63, 64, 65, 66, 67, 68, 69, 70, 71, 72, 73, 74, 75, 76, 77, 78, 79, 80, 81, 82, 83, 84, 85, 86, 87, 88, 89, 90, 91, 92, 93, 94, 95, 96]),
 .ret (.bin .add (.var 0) (.str [97, 98, 99, 100, 101, 102, 103, 104, 105, 106, 107, 108, 109, 110, 111, 112, 113, 114, 115, 116, 117, 118, 119, 120, 121, 122, 123, 124, 125, 126]))]⟩
/-- law_text(law_tape_here, law_number, law_share, law_text_here, law_k) -/
def c_law_text : FD := ⟨1, 5, [.set 1 (.call 7 [(.var 0), (.int 21000)]),
 .set 2 (.bin .mod (.p1 .int (.var 1)) (.int 8)),
 .set 3 (.str []),
 .ifs (.cmp .lt (.var 2) (.int 6)) [.for1 (.one 4) (.iRng (.idx (.lst [(.int 0), (.int 1), (.int 1), (.int 1), (.int 2), (.int 3)]) (.var 2))) [.set 3 (.bin .add (.var 3) (.idx (.str [97, 98, 66, 39, 32]) (.bin .mod (.p1 .int (.bin .fdiv (.var 1) (.idx (.lst [(.int 8), (.int 40), (.int 200)]) (.var 4)))) (.int 5))))],
 .ret (.var 3)] [],
 .for1 (.one 4) (.iRng (.idx (.lst [(.int 20), (.bin .fdiv (.var 1) (.int 1000))]) (.bin .sub (.var 2) (.int 6)))) [.set 3 (.bin .add (.var 3) (.idx (.call 9 []) (.call 7 [(.var 0), (.int 94)])))],
 .ret (.var 3)]⟩
/-- law_word(law_tape_here, law_words) -/
def c_law_word : FD := ⟨1, 2, [.set 1 (.lst [(.str [116, 97, 98, 108, 101]), (.str [107, 101, 121]), (.str [116, 111]), (.str [105, 110, 116, 101, 103, 101, 114]), (.str [119, 104, 101, 114, 101]), (.str [111, 102]), (.str [105, 109, 112, 108, 105, 101, 115]), (.str [105, 110, 115, 101, 114, 116]), (.str [98, 121]), (.str [99, 111, 117, 110, 116]), (.bin .mul (.str [120]) (.int 16)), (.str [111, 114, 120]), (.str [97, 95, 49])]),
 .ifs (.cmp .eq (.call 7 [(.var 0), (.int 3)]) (.int 0)) [.ret (.idx (.var 1) (.call 7 [(.var 0), (.p1 .len (.var 1))]))] [],
 .ret (.call 8 [(.var 0)])]⟩
/-- law_one(law_tape_here, law_share, law_word_here, law_number, law_text_here, law_symbols, law_symbol) -/
def c_law_one : FD := ⟨1, 7, [.set 1 (.call 7 [(.var 0), (.int 5)]),
 .ifs (.cmp .eq (.var 1) (.int 0)) [.set 2 (.call 11 [(.var 0)]),
 .ret (.tup [(.str [119, 111, 114, 100]), (.var 2), (.var 2)])] [],
 .ifs (.cmp .eq (.var 1) (.int 1)) [.set 3 (.idx (.lst [(.call 7 [(.var 0), (.int 1000001)]), (.call 7 [(.var 0), (.int 12)]), (.int 1000000)]) (.call 7 [(.var 0), (.int 3)])),
 .set 4 (.p1 .str (.var 3)),
 .ifs (.cmp .lt (.p1 .len (.var 4)) (.int 7)) [.set 4 (.bin .add (.bin .mul (.str [48]) (.call 7 [(.var 0), (.bin .sub (.int 8) (.p1 .len (.var 4)))])) (.var 4))] [],
 .ret (.tup [(.str [110, 117, 109, 98, 101, 114]), (.var 3), (.var 4)])] [],
 .ifs (.cmp .eq (.var 1) (.int 2)) [.set 4 (.call 10 [(.var 0)]),
 .ret (.tup [(.str [115, 116, 114, 105, 110, 103]), (.var 4), (.bin .add (.addRepl [39] 39 (.var 4)) (.str [39]))])] [],
 .set 5 (.lst [(.str [33, 61]), (.str [60, 61]), (.str [62, 61]), (.str [40]), (.str [41]), (.str [44]), (.str [59]), (.str [124]), (.str [61]), (.str [60]), (.str [62]), (.str [43]), (.str [45]), (.str [58])]),
 .set 6 (.idx (.var 5) (.call 7 [(.var 0), (.int 14)])),
 .ret (.tup [(.str [115, 121, 109, 98, 111, 108]), (.var 6), (.var 6)])]⟩
/-- law_parted(law_before, law_after) -/
def c_law_parted : FD := ⟨2, 2, [.ifs (.cmp .eq (.idx (.var 0) (.int 0)) (.str [115, 121, 109, 98, 111, 108])) [.ret (.and (.cmp .isIn (.idx (.var 0) (.int 1)) (.lst [(.str [60]), (.str [62])])) (.and (.cmp .eq (.idx (.var 1) (.int 1)) (.str [61])) (.cmp .eq (.idx (.var 1) (.int 0)) (.str [115, 121, 109, 98, 111, 108]))))] [],
 .ifs (.cmp .eq (.idx (.var 0) (.int 0)) (.idx (.var 1) (.int 0))) [.ret (.bl true)] [],
 .ret (.and (.cmp .eq (.idx (.var 0) (.int 0)) (.str [119, 111, 114, 100])) (.cmp .eq (.idx (.var 1) (.int 0)) (.str [110, 117, 109, 98, 101, 114])))]⟩
/-- law(law_script, law_tape_here, law_text_here, law_due, law_last, law_k, law_one_here, law_blanks) -/
def c_law : FD := ⟨1, 8, [.set 1 (.call 6 [(.var 0)]),
 .set 2 (.idx (.lst [(.str []), (.str [32]), (.str [10, 32, 32])]) (.call 7 [(.var 1), (.int 3)])),
 .setO 3 (.lst []),
 .set 4 (.tup [(.str [115, 121, 109, 98, 111, 108]), (.str [40]), (.str [40])]),
 .for1 (.one 5) (.iRng (.call 7 [(.var 1), (.int 21)])) [.set 6 (.call 12 [(.var 1)]),
 .set 7 (.idx (.lst [(.str []), (.str []), (.str [32]), (.str [10]), (.str [32, 32]), (.str [32, 10, 32])]) (.call 7 [(.var 1), (.int 6)])),
 .ifs (.and (.var 3) (.and (.call 13 [(.var 4), (.var 6)]) (.cmp .eq (.var 7) (.str [])))) [.set 7 (.idx (.lst [(.str [32]), (.str [10])]) (.call 7 [(.var 1), (.int 2)]))] [],
 .set 2 (.bin .add (.var 2) (.var 7)),
 .app 3 (.tup [(.idx (.var 6) (.int 0)), (.idx (.var 6) (.int 1)), (.p1 .len (.var 2))]),
 .set 2 (.bin .add (.var 2) (.idx (.var 6) (.int 2))),
 .set 4 (.var 6)],
 .set 2 (.bin .add (.var 2) (.idx (.lst [(.str []), (.str [32]), (.str [10])]) (.call 7 [(.var 1), (.int 3)]))),
 .ret (.cmp .eq (.p1 .repr (.call 5 [(.var 2)])) (.p1 .repr (.p1 .tuple (.var 3))))]⟩
def g_LETTERS : D := (.str [97, 98, 99, 100, 101, 102, 103, 104, 105, 106, 107, 108, 109, 110, 111, 112, 113, 114, 115, 116, 117, 118, 119, 120, 121, 122])
def g_DIGITS : D := (.str [48, 49, 50, 51, 52, 53, 54, 55, 56, 57])
def g_WORD_CHARACTERS : D := (.str [97, 98, 99, 100, 101, 102, 103, 104, 105, 106, 107, 108, 109, 110, 111, 112, 113, 114, 115, 116, 117, 118, 119, 120, 121, 122, 48, 49, 50, 51, 52, 53, 54, 55, 56, 57, 95])
def g_SYMBOLS : D := (.tup [(.str [33, 61]), (.str [60, 61]), (.str [62, 61]), (.str [40]), (.str [41]), (.str [44]), (.str [59]), (.str [124]), (.str [61]), (.str [60]), (.str [62]), (.str [43]), (.str [45]), (.str [58])])
def g_LONGEST_WORD : D := (.int 16)
def g_LONGEST_NUMBER : D := (.int 7)
def g_GREATEST_NUMBER : D := (.int 1000000)
def g_LONGEST_STRING : D := (.int 20)
def pg : Pg := ⟨[c_run_end, c_word_from, c_number_from, c_string_from, c_symbol_from, c_tokens_of, c_law_tape, c_law_draw, c_law_name, c_law_signs, c_law_text, c_law_word, c_law_one, c_law_parted, c_law],
 [g_LETTERS, g_DIGITS, g_WORD_CHARACTERS, g_SYMBOLS, g_LONGEST_WORD, g_LONGEST_NUMBER, g_GREATEST_NUMBER, g_LONGEST_STRING], 100000⟩
def fnN : List Str := ["run_end", "word_from", "number_from", "string_from", "symbol_from", "tokens_of", "_law_tape", "_law_draw", "_law_name", "_law_signs", "_law_text", "_law_word", "_law_one", "_law_parted", "law"]
def gnN : List Str := ["LETTERS", "DIGITS", "WORD_CHARACTERS", "SYMBOLS", "LONGEST_WORD", "LONGEST_NUMBER", "GREATEST_NUMBER", "LONGEST_STRING"]
def topS (i : Nat) : Stmt := PySem.Challenge.pw_indoubt_k77_tokens_of_a_text.main.body.getD i (.Pass ⟨0, 0, 0, 0⟩)
abbrev s_run_end : Stmt := topS 17
def n_run_end : List Str := ["text", "start", "characters", "end"]
theorem sc_run_end : FnScope n_run_end ["text", "start", "characters"] (defScope s_run_end) := ⟨rfl, rfl, rfl, by decide +kernel, rfl, by decide +kernel, by decide +kernel⟩
theorem ck_run_end : chkSs c_run_end.body ⟨n_run_end, defScope s_run_end, fun _ => true, fnN, gnN⟩ (defBody s_run_end) = true := by decide +kernel
abbrev s_word_from : Stmt := topS 18
def n_word_from : List Str := ["text", "start", "end"]
theorem sc_word_from : FnScope n_word_from ["text", "start"] (defScope s_word_from) := ⟨rfl, rfl, rfl, by decide +kernel, rfl, by decide +kernel, by decide +kernel⟩
theorem ck_word_from : chkSs c_word_from.body ⟨n_word_from, defScope s_word_from, fun _ => true, fnN, gnN⟩ (defBody s_word_from) = true := by decide +kernel
abbrev s_number_from : Stmt := topS 19
def n_number_from : List Str := ["text", "start", "end", "number"]
theorem sc_number_from : FnScope n_number_from ["text", "start"] (defScope s_number_from) := ⟨rfl, rfl, rfl, by decide +kernel, rfl, by decide +kernel, by decide +kernel⟩
theorem ck_number_from : chkSs c_number_from.body ⟨n_number_from, defScope s_number_from, fun _ => true, fnN, gnN⟩ (defBody s_number_from) = true := by decide +kernel
abbrev s_string_from : Stmt := topS 20
def n_string_from : List Str := ["text", "start", "characters", "end"]
theorem sc_string_from : FnScope n_string_from ["text", "start"] (defScope s_string_from) := ⟨rfl, rfl, rfl, by decide +kernel, rfl, by decide +kernel, by decide +kernel⟩
theorem ck_string_from : chkSs c_string_from.body ⟨n_string_from, defScope s_string_from, fun _ => true, fnN, gnN⟩ (defBody s_string_from) = true := by decide +kernel
abbrev s_symbol_from : Stmt := topS 21
def n_symbol_from : List Str := ["text", "start", "symbol", "end"]
theorem sc_symbol_from : FnScope n_symbol_from ["text", "start"] (defScope s_symbol_from) := ⟨rfl, rfl, rfl, by decide +kernel, rfl, by decide +kernel, by decide +kernel⟩
theorem ck_symbol_from : chkSs c_symbol_from.body ⟨n_symbol_from, defScope s_symbol_from, fun _ => true, fnN, gnN⟩ (defBody s_symbol_from) = true := by decide +kernel
abbrev s_tokens_of : Stmt := topS 22
def n_tokens_of : List Str := ["text", "tokens", "at", "token"]
theorem sc_tokens_of : FnScope n_tokens_of ["text"] (defScope s_tokens_of) := ⟨rfl, rfl, rfl, by decide +kernel, rfl, by decide +kernel, by decide +kernel⟩
theorem ck_tokens_of : chkSs c_tokens_of.body ⟨n_tokens_of, defScope s_tokens_of, fun _ => true, fnN, gnN⟩ (defBody s_tokens_of) = true := by decide +kernel
abbrev s_law_tape : Stmt := topS 24
def n_law_tape : List Str := ["_law_script", "_law_total", "_law_cell"]
theorem sc_law_tape : FnScope n_law_tape ["_law_script"] (defScope s_law_tape) := ⟨rfl, rfl, rfl, by decide +kernel, rfl, by decide +kernel, by decide +kernel⟩
theorem ck_law_tape : chkSs c_law_tape.body ⟨n_law_tape, defScope s_law_tape, fun _ => true, fnN, gnN⟩ (defBody s_law_tape) = true := by decide +kernel
abbrev s_law_draw : Stmt := topS 25
def n_law_draw : List Str := ["_law_tape_here", "_law_many", "_law_place", "_law_number"]
theorem sc_law_draw : FnScope n_law_draw ["_law_tape_here", "_law_many"] (defScope s_law_draw) := ⟨rfl, rfl, rfl, by decide +kernel, rfl, by decide +kernel, by decide +kernel⟩
theorem ck_law_draw : chkSs c_law_draw.body ⟨n_law_draw, defScope s_law_draw, fun _ => true, fnN, gnN⟩ (defBody s_law_draw) = true := by decide +kernel
abbrev s_law_name : Stmt := topS 26
def n_law_name : List Str := ["_law_tape_here", "_law_signs_here", "_law_number", "_law_name_here", "_law_k"]
theorem sc_law_name : FnScope n_law_name ["_law_tape_here"] (defScope s_law_name) := ⟨rfl, rfl, rfl, by decide +kernel, rfl, by decide +kernel, by decide +kernel⟩
theorem ck_law_name : chkSs c_law_name.body ⟨n_law_name, defScope s_law_name, fun _ => true, fnN, gnN⟩ (defBody s_law_name) = true := by decide +kernel
abbrev s_law_signs : Stmt := topS 27
def n_law_signs : List Str := ["_law_signs_here"]
theorem sc_law_signs : FnScope n_law_signs [] (defScope s_law_signs) := ⟨rfl, rfl, rfl, by decide +kernel, rfl, by decide +kernel, by decide +kernel⟩
theorem ck_law_signs : chkSs c_law_signs.body ⟨n_law_signs, defScope s_law_signs, fun _ => true, fnN, gnN⟩ (defBody s_law_signs) = true := by decide +kernel
abbrev s_law_text : Stmt := topS 28
def n_law_text : List Str := ["_law_tape_here", "_law_number", "_law_share", "_law_text_here", "_law_k"]
theorem sc_law_text : FnScope n_law_text ["_law_tape_here"] (defScope s_law_text) := ⟨rfl, rfl, rfl, by decide +kernel, rfl, by decide +kernel, by decide +kernel⟩
theorem ck_law_text : chkSs c_law_text.body ⟨n_law_text, defScope s_law_text, fun _ => true, fnN, gnN⟩ (defBody s_law_text) = true := by decide +kernel
abbrev s_law_word : Stmt := topS 29
def n_law_word : List Str := ["_law_tape_here", "_law_words"]
theorem sc_law_word : FnScope n_law_word ["_law_tape_here"] (defScope s_law_word) := ⟨rfl, rfl, rfl, by decide +kernel, rfl, by decide +kernel, by decide +kernel⟩
theorem ck_law_word : chkSs c_law_word.body ⟨n_law_word, defScope s_law_word, fun _ => true, fnN, gnN⟩ (defBody s_law_word) = true := by decide +kernel
abbrev s_law_one : Stmt := topS 30
def n_law_one : List Str := ["_law_tape_here", "_law_share", "_law_word_here", "_law_number", "_law_text_here", "_law_symbols", "_law_symbol"]
theorem sc_law_one : FnScope n_law_one ["_law_tape_here"] (defScope s_law_one) := ⟨rfl, rfl, rfl, by decide +kernel, rfl, by decide +kernel, by decide +kernel⟩
theorem ck_law_one : chkSs c_law_one.body ⟨n_law_one, defScope s_law_one, fun _ => true, fnN, gnN⟩ (defBody s_law_one) = true := by decide +kernel
abbrev s_law_parted : Stmt := topS 31
def n_law_parted : List Str := ["_law_before", "_law_after"]
theorem sc_law_parted : FnScope n_law_parted ["_law_before", "_law_after"] (defScope s_law_parted) := ⟨rfl, rfl, rfl, by decide +kernel, rfl, by decide +kernel, by decide +kernel⟩
theorem ck_law_parted : chkSs c_law_parted.body ⟨n_law_parted, defScope s_law_parted, fun _ => true, fnN, gnN⟩ (defBody s_law_parted) = true := by decide +kernel
abbrev s_law : Stmt := topS 32
def n_law : List Str := ["_law_script", "_law_tape_here", "_law_text_here", "_law_due", "_law_last", "_law_k", "_law_one_here", "_law_blanks"]
theorem sc_law : FnScope n_law ["_law_script"] (defScope s_law) := ⟨rfl, rfl, rfl, by decide +kernel, rfl, by decide +kernel, by decide +kernel⟩
theorem ck_law : chkSs c_law.body ⟨n_law, defScope s_law, fun _ => true, fnN, gnN⟩ (defBody s_law) = true := by decide +kernel
theorem all_mk {w : World} {K : PySem.W.Frag} {h : Heap} {mg : Str → Option Value} {prog : Program} {fa : Addr} {a0 a1 a2 a3 a4 a5 a6 a7 a8 a9 a10 a11 a12 a13 a14 : Addr} (X : K.In h) (N : h.Ns mainGlobals mg) (hfa : mg "law" = some (.ref fa))
    (R0 : RawFn K "run_end" s_run_end a0)
    (R1 : RawFn K "word_from" s_word_from a1)
    (R2 : RawFn K "number_from" s_number_from a2)
    (R3 : RawFn K "string_from" s_string_from a3)
    (R4 : RawFn K "symbol_from" s_symbol_from a4)
    (R5 : RawFn K "tokens_of" s_tokens_of a5)
    (R6 : RawFn K "_law_tape" s_law_tape a6)
    (R7 : RawFn K "_law_draw" s_law_draw a7)
    (R8 : RawFn K "_law_name" s_law_name a8)
    (R9 : RawFn K "_law_signs" s_law_signs a9)
    (R10 : RawFn K "_law_text" s_law_text a10)
    (R11 : RawFn K "_law_word" s_law_word a11)
    (R12 : RawFn K "_law_one" s_law_one a12)
    (R13 : RawFn K "_law_parted" s_law_parted a13)
    (R14 : RawFn K "law" s_law a14)
    (C0 : RawC K w "LETTERS" g_LETTERS)
    (C1 : RawC K w "DIGITS" g_DIGITS)
    (C2 : RawC K w "WORD_CHARACTERS" g_WORD_CHARACTERS)
    (C3 : RawC K w "SYMBOLS" g_SYMBOLS)
    (C4 : RawC K w "LONGEST_WORD" g_LONGEST_WORD)
    (C5 : RawC K w "LONGEST_NUMBER" g_LONGEST_NUMBER)
    (C6 : RawC K w "GREATEST_NUMBER" g_GREATEST_NUMBER)
    (C7 : RawC K w "LONGEST_STRING" g_LONGEST_STRING)
    (Z : atAll (fun _ x => PySem.W.nsIn K mainGlobals x = some none) 0 blts) :
    ∃ (fu : FuncData) (fal : Nat → Option Addr), (∀ (s : Shared) (u : Value), BindsTo s fu ⟨[u], []⟩ [("_law_script", u)]) ∧
      ∀ base : Heap, K.In base → base.Ns mainGlobals mg → FnRun prog w K mg base ⟨prog, w, K, mg, base, fal⟩ pg 200 14 fa fu ["_law_script"] := by
  have hL := PySem.W.mg_of X N R14.ns
  rw [hfa] at hL
  cases hL
  obtain ⟨oc, od, kV, dc, pm, an, cd, ct, sl, l, c⟩ := R14.ex
  have FL := fun_mk (st := s_law) l c R14.kp
  let L : List (Str × Addr) := [("run_end", a0), ("word_from", a1), ("number_from", a2), ("string_from", a3), ("symbol_from", a4), ("tokens_of", a5), ("_law_tape", a6), ("_law_draw", a7), ("_law_name", a8), ("_law_signs", a9), ("_law_text", a10), ("_law_word", a11), ("_law_one", a12), ("_law_parted", a13), ("law", fa)]
  refine ⟨PySem.W.fnOf "law" "law" (defArgs s_law) (defBody s_law) (defScope s_law) .none kV dc pm an cd ct, fun f => (L[f]?).map (·.2), fun s u => .of_eq rfl, fun base _ _ => ?_⟩
  have M := mf_tab (G := ⟨prog, w, K, mg, base, fun f => (L[f]?).map (·.2)⟩) (P := pg) (fn := fnN) (gn := gnN) L rfl (fun _ => rfl) ⟨fst_mk X N R0 sc_run_end (fun _ _ _ _ _ _ us hl => match us, hl with | [_, _, _], _ => rfl) rfl rfl ck_run_end rfl rfl, fst_mk X N R1 sc_word_from (fun _ _ _ _ _ _ us hl => match us, hl with | [_, _], _ => rfl) rfl rfl ck_word_from rfl rfl, fst_mk X N R2 sc_number_from (fun _ _ _ _ _ _ us hl => match us, hl with | [_, _], _ => rfl) rfl rfl ck_number_from rfl rfl, fst_mk X N R3 sc_string_from (fun _ _ _ _ _ _ us hl => match us, hl with | [_, _], _ => rfl) rfl rfl ck_string_from rfl rfl, fst_mk X N R4 sc_symbol_from (fun _ _ _ _ _ _ us hl => match us, hl with | [_, _], _ => rfl) rfl rfl ck_symbol_from rfl rfl, fst_mk X N R5 sc_tokens_of (fun _ _ _ _ _ _ us hl => match us, hl with | [_], _ => rfl) rfl rfl ck_tokens_of rfl rfl, fst_mk X N R6 sc_law_tape (fun _ _ _ _ _ _ us hl => match us, hl with | [_], _ => rfl) rfl rfl ck_law_tape rfl rfl, fst_mk X N R7 sc_law_draw (fun _ _ _ _ _ _ us hl => match us, hl with | [_, _], _ => rfl) rfl rfl ck_law_draw rfl rfl, fst_mk X N R8 sc_law_name (fun _ _ _ _ _ _ us hl => match us, hl with | [_], _ => rfl) rfl rfl ck_law_name rfl rfl, fst_mk X N R9 sc_law_signs (fun _ _ _ _ _ _ us hl => match us, hl with | [], _ => rfl) rfl rfl ck_law_signs rfl rfl, fst_mk X N R10 sc_law_text (fun _ _ _ _ _ _ us hl => match us, hl with | [_], _ => rfl) rfl rfl ck_law_text rfl rfl, fst_mk X N R11 sc_law_word (fun _ _ _ _ _ _ us hl => match us, hl with | [_], _ => rfl) rfl rfl ck_law_word rfl rfl, fst_mk X N R12 sc_law_one (fun _ _ _ _ _ _ us hl => match us, hl with | [_], _ => rfl) rfl rfl ck_law_one rfl rfl, fst_mk X N R13 sc_law_parted (fun _ _ _ _ _ _ us hl => match us, hl with | [_, _], _ => rfl) rfl rfl ck_law_parted rfl rfl, fst_mk X N R14 sc_law (fun _ _ _ _ _ _ us hl => match us, hl with | [_], _ => rfl) rfl rfl ck_law rfl rfl, trivial⟩
    ⟨con_of X N C0 rfl, con_of X N C1 rfl, con_of X N C2 rfl, con_of X N C3 rfl, con_of X N C4 rfl, con_of X N C5 rfl, con_of X N C6 rfl, con_of X N C7 rfl, trivial⟩ (blt_of X N Z)
  exact run_up (M 199) FL sc_law rfl ck_law rfl rfl
end Law
/-! K77m: the law in plain Lean. -/
namespace Law
open M3
def Tp (ns : List Int) (S : Sto) : Prop := ∃ p n s : Int, S = [[.lst (ns.map .int), .int p, .int n, .int s]] ∧ 0 ≤ p ∧ 0 ≤ n
theorem big1 : big 48271 = true := by decide
theorem big2 : big 69621 = true := by decide
theorem big3 : big 31 = true := by decide
theorem mod_ok {a b : Int} (h : 0 < b) : 0 ≤ a % b ∧ a % b < b := ⟨Int.emod_nonneg _ (by omega), Int.emod_lt_of_pos _ h⟩
theorem draw_ (k : Nat) {m : Int} {ns : List Int} {S : Sto} (h : Tp ns S) (hm : m < 1073741824) : E (call pg (k + 1) 7 [.ref 0, .int m] S) fun x S' => ∃ r, x = .v (.int r) ∧ (0 ≤ r ∧ r < (if 1 > m then 1 else m)) ∧ Tp ns S' := by
  obtain ⟨p, n, s, rfl, hp, hn⟩ := h
  refine E_call2 (fd := c_law_draw) rfl rfl (σ := [some (.v (.ref 0)), some (.v (.int m)), none, none]) rfl ?_
  simp only [c_law_draw, E_some, E_someP, O_some, Ws_some, O_ite, E_bind1, E_bind2, E_lift1, E_lift2, E_lift2b, E_varE, E_varB, E_truthOf, E_asTest, E_itemsR, E_rngR, E_andR, E_andT, E_orT, E_notT, E_condR, E_callR, E_argsR, E_dispR, E_idxT, E_cutR, E_optI, Ws_seq, Ws_set, Ws_setO, Ws_setT, Ws_setI, Ws_aug, Ws_app, Ws_ex, Ws_ret, Ws_if, Ws_for, Ws_frz, execs, exec, sem, sems, Sm.of, Sm.none, fzs, T.fz, List.map_cons, List.map_nil, List.getElem?_cons_succ, List.getElem?_cons_zero, List.set_cons_succ, List.set_cons_zero, Option.some.injEq, T.v.injEq, T.own.injEq, D.int.injEq, D.bl.injEq, D.tup.injEq, D.str.injEq, exists_eq_left', exists_eq_left, Pg.cf, O_add_int, O_sub_int, O_mul_int, O_fdiv_int, O_mod_int, O_lt_int, O_le_int, O_gt_int, O_ge_int, O_eq_int, O_eq_str, O_ne_str, O_int_int, O_abs_int, O_len_str, O_len_own, O_len_lst, O_max2, O_get_ref, O_get_own, O_get_str, O_get_tup, O_get_lst, O_add_str, O_str_int, O_tuple_own, O_aug_add, O_mul_str, O_pow1018, O_in_ch, O_sl_str, O_truth_own, O_truth_bl, O_itemsOf_tup, O_itemsOf_scr, O_list_scr, O_put1, Ws_setTape, ix_0, ix_1, ix_2, ix_3, Ws_appS, decide_eq_true_eq, Bool.not_eq_true', setAll, Bool.false_eq_true, if_false, if_true, big1, big2, Bool.or_true, true_and]
  have M1 : 0 < (if 1 > m then 1 else m) := by split <;> omega
  have M2 : 0 < (if 2 > m then 2 else m) ∧ (if 2 > m then 2 else m) < 1073741824 := by split <;> omega
  generalize (if 1 > m then 1 else m) = m1 at *
  generalize (if 2 > m then 2 else m) = m2 at *
  have tail : ∀ z : Int, 0 ≤ z → ∀ p : Int, 0 ≤ p → ∀ s : Int, (0 < m2 ∧ m2 < 1073741824) ∧ 0 < m1 ∧ (0 ≤ z % m1 ∧ z % m1 < m1) ∧ Tp ns [[D.lst (List.map D.int ns), D.int p, D.int (z / m2), D.int s]] := fun z hz p hp s =>
    ⟨M2, M1, mod_ok M1, p, _, s, rfl, hp, Int.ediv_nonneg hz (by omega)⟩
  have hp1 : 0 ≤ p + 1 := by omega
  split
  · split
    · rename_i hlt
      obtain ⟨q, rfl⟩ := Int.eq_ofNat_of_zero_le hp
      have hq : q < ns.length := by
        rw [List.length_map] at hlt
        omega
      rw [ix_nat (by rw [List.length_map]; exact hq), List.getElem?_map, List.getElem?_eq_getElem hq]
      simp only [Option.map_some, E_some, E_someP, O_some, Ws_some, O_ite, E_bind1, E_bind2, E_lift1, E_lift2, E_lift2b, E_varE, E_varB, E_truthOf, E_asTest, E_itemsR, E_rngR, E_andR, E_andT, E_orT, E_notT, E_condR, E_callR, E_argsR, E_dispR, E_idxT, E_cutR, E_optI, Ws_seq, Ws_set, Ws_setO, Ws_setT, Ws_setI, Ws_aug, Ws_app, Ws_ex, Ws_ret, Ws_if, Ws_for, Ws_frz, execs, exec, sem, sems, Sm.of, Sm.none, fzs, T.fz, List.map_cons, List.map_nil, List.getElem?_cons_succ, List.getElem?_cons_zero, List.set_cons_succ, List.set_cons_zero, Option.some.injEq, T.v.injEq, T.own.injEq, D.int.injEq, D.bl.injEq, D.tup.injEq, D.str.injEq, exists_eq_left', exists_eq_left, Pg.cf, O_add_int, O_sub_int, O_mul_int, O_fdiv_int, O_mod_int, O_lt_int, O_le_int, O_gt_int, O_ge_int, O_eq_int, O_eq_str, O_ne_str, O_int_int, O_abs_int, O_len_str, O_len_own, O_len_lst, O_max2, O_get_ref, O_get_own, O_get_str, O_get_tup, O_get_lst, O_add_str, O_str_int, O_tuple_own, O_aug_add, O_mul_str, O_pow1018, O_in_ch, O_sl_str, O_truth_own, O_truth_bl, O_itemsOf_tup, O_itemsOf_scr, O_list_scr, O_put1, Ws_setTape, ix_0, ix_1, ix_2, ix_3, Ws_appS, decide_eq_true_eq, Bool.not_eq_true', setAll, Bool.false_eq_true, if_false, if_true, big1, big2, Bool.or_true, true_and]
      have ha : 0 ≤ (if ns[q] < 0 then -ns[q] else ns[q]) := by split <;> omega
      generalize (if ns[q] < 0 then -ns[q] else ns[q]) = y at *
      split
      · exact ⟨by decide, by decide, M1, mod_ok M1, _, n, s, rfl, hp1, hn⟩
      · exact tail y ha _ hp1 _
    · refine ⟨by decide, ?_⟩
      split
      · exact ⟨by decide, by decide, M1, mod_ok M1, _, n, _, rfl, hp1, hn⟩
      · exact tail _ (mod_ok (by decide)).1 _ hp1 _
  · exact tail n hn p hp s
/-- a draw below m -/
theorem draw (k : Nat) {m : Int} {ns : List Int} {S : Sto} {Q : T → Sto → Prop} (h : Tp ns S) (hm : 0 < m) (hM : m < 1073741824) (q : ∀ (r : Nat) S', (r : Int) < m → Tp ns S' → Q (.v (.int r)) S') : E (call pg (k + 1) 7 [.ref 0, .int m] S) Q := by
  refine (draw_ k h hM).mono fun x S' => ?_
  rintro ⟨r, rfl, ⟨h1, h2⟩, t⟩
  obtain ⟨z, rfl⟩ := Int.eq_ofNat_of_zero_le h1
  rw [if_neg (by omega)] at h2
  exact q z S' h2 t
theorem tape (k : Nat) (ns : List Int) (hl : ns.length ≤ 63) : E (call pg (k + 1) 6 [.scr ns] []) fun x S' => x = .v (.ref 0) ∧ Tp ns S' := by
  refine E_call2 (fd := c_law_tape) rfl rfl (σ := [some (.v (.scr ns)), none, none]) rfl ?_
  simp only [c_law_tape, E_some, E_someP, O_some, Ws_some, O_ite, E_bind1, E_bind2, E_lift1, E_lift2, E_lift2b, E_varE, E_varB, E_truthOf, E_asTest, E_itemsR, E_rngR, E_andR, E_andT, E_orT, E_notT, E_condR, E_callR, E_argsR, E_dispR, E_idxT, E_cutR, E_optI, Ws_seq, Ws_set, Ws_setO, Ws_setT, Ws_setI, Ws_aug, Ws_app, Ws_ex, Ws_ret, Ws_if, Ws_for, Ws_frz, execs, exec, sem, sems, Sm.of, Sm.none, fzs, T.fz, List.map_cons, List.map_nil, List.getElem?_cons_succ, List.getElem?_cons_zero, List.set_cons_succ, List.set_cons_zero, Option.some.injEq, T.v.injEq, T.own.injEq, D.int.injEq, D.bl.injEq, D.tup.injEq, D.str.injEq, exists_eq_left', exists_eq_left, Pg.cf, O_add_int, O_sub_int, O_mul_int, O_fdiv_int, O_mod_int, O_lt_int, O_le_int, O_gt_int, O_ge_int, O_eq_int, O_eq_str, O_ne_str, O_int_int, O_abs_int, O_len_str, O_len_own, O_len_lst, O_max2, O_get_ref, O_get_own, O_get_str, O_get_tup, O_get_lst, O_add_str, O_str_int, O_tuple_own, O_aug_add, O_mul_str, O_pow1018, O_in_ch, O_sl_str, O_truth_own, O_truth_bl, O_itemsOf_tup, O_itemsOf_scr, O_list_scr, O_put1, Ws_setTape, ix_0, ix_1, ix_2, ix_3, Ws_appS, decide_eq_true_eq, Bool.not_eq_true', setAll, Bool.false_eq_true, if_false, if_true]
  refine ws_forL (fun _ σ S => ∃ (t : Int) (x : Option T), σ = [some (.v (.scr ns)), some (.v (.int t)), x] ∧ S = []) ⟨7, none, rfl, rfl⟩ (fun i d σ S hd j => ?_) fun σ S j => ?_
  · obtain ⟨t, x, rfl, rfl⟩ := j
    rw [List.getElem?_map] at hd
    obtain ⟨z, _, rfl⟩ := Option.map_eq_some_iff.mp hd
    simp only [E_some, E_someP, O_some, Ws_some, O_ite, E_bind1, E_bind2, E_lift1, E_lift2, E_lift2b, E_varE, E_varB, E_truthOf, E_asTest, E_itemsR, E_rngR, E_andR, E_andT, E_orT, E_notT, E_condR, E_callR, E_argsR, E_dispR, E_idxT, E_cutR, E_optI, Ws_seq, Ws_set, Ws_setO, Ws_setT, Ws_setI, Ws_aug, Ws_app, Ws_ex, Ws_ret, Ws_if, Ws_for, Ws_frz, execs, exec, sem, sems, Sm.of, Sm.none, fzs, T.fz, List.map_cons, List.map_nil, List.getElem?_cons_succ, List.getElem?_cons_zero, List.set_cons_succ, List.set_cons_zero, Option.some.injEq, T.v.injEq, T.own.injEq, D.int.injEq, D.bl.injEq, D.tup.injEq, D.str.injEq, exists_eq_left', exists_eq_left, Pg.cf, O_add_int, O_sub_int, O_mul_int, O_fdiv_int, O_mod_int, O_lt_int, O_le_int, O_gt_int, O_ge_int, O_eq_int, O_eq_str, O_ne_str, O_int_int, O_abs_int, O_len_str, O_len_own, O_len_lst, O_max2, O_get_ref, O_get_own, O_get_str, O_get_tup, O_get_lst, O_add_str, O_str_int, O_tuple_own, O_aug_add, O_mul_str, O_pow1018, O_in_ch, O_sl_str, O_truth_own, O_truth_bl, O_itemsOf_tup, O_itemsOf_scr, O_list_scr, O_put1, Ws_setTape, ix_0, ix_1, ix_2, ix_3, Ws_appS, decide_eq_true_eq, Bool.not_eq_true', setAll, Bool.false_eq_true, if_false, if_true, big3, Bool.or_true, true_and]
    exact ⟨by decide, _, _, rfl, trivial⟩
  · obtain ⟨t, x, rfl, rfl⟩ := j
    simp only [E_some, E_someP, O_some, Ws_some, O_ite, E_bind1, E_bind2, E_lift1, E_lift2, E_lift2b, E_varE, E_varB, E_truthOf, E_asTest, E_itemsR, E_rngR, E_andR, E_andT, E_orT, E_notT, E_condR, E_callR, E_argsR, E_dispR, E_idxT, E_cutR, E_optI, Ws_seq, Ws_set, Ws_setO, Ws_setT, Ws_setI, Ws_aug, Ws_app, Ws_ex, Ws_ret, Ws_if, Ws_for, Ws_frz, execs, exec, sem, sems, Sm.of, Sm.none, fzs, T.fz, List.map_cons, List.map_nil, List.getElem?_cons_succ, List.getElem?_cons_zero, List.set_cons_succ, List.set_cons_zero, Option.some.injEq, T.v.injEq, T.own.injEq, D.int.injEq, D.bl.injEq, D.tup.injEq, D.str.injEq, exists_eq_left', exists_eq_left, Pg.cf, O_add_int, O_sub_int, O_mul_int, O_fdiv_int, O_mod_int, O_lt_int, O_le_int, O_gt_int, O_ge_int, O_eq_int, O_eq_str, O_ne_str, O_int_int, O_abs_int, O_len_str, O_len_own, O_len_lst, O_max2, O_get_ref, O_get_own, O_get_str, O_get_tup, O_get_lst, O_add_str, O_str_int, O_tuple_own, O_aug_add, O_mul_str, O_pow1018, O_in_ch, O_sl_str, O_truth_own, O_truth_bl, O_itemsOf_tup, O_itemsOf_scr, O_list_scr, O_put1, Ws_setTape, ix_0, ix_1, ix_2, ix_3, Ws_appS, decide_eq_true_eq, Bool.not_eq_true', setAll, Bool.false_eq_true, if_false, if_true]
    exact ⟨by show 4 ≤ cap; decide, rfl, 0, 0, t, rfl, by decide, by decide⟩
theorem signs (k : Nat) (S : Sto) : call pg (k + 1) 9 [] S = some (.v (.str ([32, 33, 34, 35, 36, 38, 39, 40, 41, 42, 43, 44, 45, 46, 47, 48, 49, 50, 51, 52, 53, 54, 55, 56, 57, 58, 59, 60, 61, 62, 63, 64, 65, 66, 67, 68, 69, 70, 71, 72, 73, 74, 75, 76, 77, 78, 79, 80, 81, 82, 83, 84, 85, 86, 87, 88, 89, 90, 91, 92, 93, 94, 95, 96] ++ [97, 98, 99, 100, 101, 102, 103, 104, 105, 106, 107, 108, 109, 110, 111, 112, 113, 114, 115, 116, 117, 118, 119, 120, 121, 122, 123, 124, 125, 126])), S) := rfl
/-- the letters, the signs of a word -/
def LC (c : Nat) : Bool := decide (97 ≤ c) && decide (c ≤ 122)
def DC (c : Nat) : Bool := decide (48 ≤ c) && decide (c ≤ 57)
def WC (c : Nat) : Bool := LC c || (DC c || c == 95)
def wordy (w : List Nat) : Prop := ∃ c r, w = c :: r ∧ LC c = true ∧ r.all WC = true
theorem wordy.app {w : List Nat} (h : wordy w) {c : Nat} (hc : WC c = true) : wordy (w ++ [c]) := by
  obtain ⟨d, r, rfl, h1, h2⟩ := h
  refine ⟨d, r ++ [c], rfl, h1, ?_⟩
  rw [List.all_append, h2]
  simp [hc]
def strP (P : List Nat → Bool) : D → Bool
  | .str s => P s
  | _ => false
theorem strP_of {P : List Nat → Bool} {d : D} (h : strP P d = true) : ∃ s, d = .str s ∧ P s = true := by
  cases d <;> first | exact ⟨_, rfl, h⟩ | cases h
theorem all_of {α : Type} {p : α → Bool} {l : List α} (h : l.all p = true) : ∀ d ∈ l, p d = true := List.all_eq_true.mp h
/-- the front of a name -/
def frontP (s : List Nat) : Bool := s.all WC && decide (s.length ≤ 13) && (s.isEmpty || LC (s.headD 0))
theorem front {s : List Nat} (h : frontP s = true) {c : Nat} (hc : LC c = true) : wordy (s ++ [c]) ∧ (s ++ [c]).length ≤ 14 := by
  unfold frontP at h
  rw [Bool.and_eq_true, Bool.and_eq_true, decide_eq_true_eq] at h
  obtain ⟨⟨h1, h2⟩, h3⟩ := h
  refine ⟨?_, by simp; omega⟩
  cases s with
  | nil => exact ⟨c, [], rfl, hc, rfl⟩
  | cons d r =>
    have h1 : (WC d && r.all WC) = true := h1
    rw [Bool.and_eq_true] at h1
    have h3 : LC d = true := by simpa using h3
    exact (show wordy (d :: r) from ⟨d, r, rfl, h3, h1.2⟩).app (by unfold WC; rw [hc]; rfl)
def intP (P : Int → Bool) : D → Bool
  | .int s => P s
  | _ => false
theorem intP_of {P : Int → Bool} {d : D} (h : intP P d = true) : ∃ s, d = .int s ∧ P s = true := by
  cases d <;> first | exact ⟨_, rfl, h⟩ | cases h
theorem name (k : Nat) {ns : List Int} {S : Sto} (h : Tp ns S) : E (call pg (k + 2) 8 [.ref 0] S) fun x S' => ∃ w : List Nat, x = .v (.str w) ∧ (wordy w ∧ w.length ≤ 16) ∧ Tp ns S' := by
  refine E_call2 (fd := c_law_name) rfl rfl (σ := [some (.v (.ref 0)), none, none, none, none]) rfl ?_
  simp only [c_law_name, E_some, E_someP, O_some, Ws_some, O_ite, E_bind1, E_bind2, E_lift1, E_lift2, E_lift2b, E_varE, E_varB, E_truthOf, E_asTest, E_itemsR, E_rngR, E_andR, E_andT, E_orT, E_notT, E_condR, E_callR, E_argsR, E_dispR, E_idxT, E_cutR, E_optI, Ws_seq, Ws_set, Ws_setO, Ws_setT, Ws_setI, Ws_aug, Ws_app, Ws_ex, Ws_ret, Ws_if, Ws_for, Ws_frz, execs, exec, sem, sems, Sm.of, Sm.none, fzs, T.fz, List.map_cons, List.map_nil, List.getElem?_cons_succ, List.getElem?_cons_zero, List.set_cons_succ, List.set_cons_zero, Option.some.injEq, T.v.injEq, T.own.injEq, D.int.injEq, D.bl.injEq, D.tup.injEq, D.str.injEq, exists_eq_left', exists_eq_left, Pg.cf, O_add_int, O_sub_int, O_mul_int, O_fdiv_int, O_mod_int, O_lt_int, O_le_int, O_gt_int, O_ge_int, O_eq_int, O_eq_str, O_ne_str, O_int_int, O_abs_int, O_len_str, O_len_own, O_len_lst, O_max2, O_get_ref, O_get_own, O_get_str, O_get_tup, O_get_lst, O_add_str, O_str_int, O_tuple_own, O_aug_add, O_mul_str, O_pow1018, O_in_ch, O_sl_str, O_truth_own, O_truth_bl, O_itemsOf_tup, O_itemsOf_scr, O_list_scr, O_put1, Ws_setTape, ix_0, ix_1, ix_2, ix_3, Ws_appS, decide_eq_true_eq, Bool.not_eq_true', setAll, Bool.false_eq_true, if_false, if_true]
  refine draw k h (by decide) (by decide) fun r S h2 t => ?_
  simp only [E_some, E_someP, O_some, Ws_some, O_ite, E_bind1, E_bind2, E_lift1, E_lift2, E_lift2b, E_varE, E_varB, E_truthOf, E_asTest, E_itemsR, E_rngR, E_andR, E_andT, E_orT, E_notT, E_condR, E_callR, E_argsR, E_dispR, E_idxT, E_cutR, E_optI, Ws_seq, Ws_set, Ws_setO, Ws_setT, Ws_setI, Ws_aug, Ws_app, Ws_ex, Ws_ret, Ws_if, Ws_for, Ws_frz, execs, exec, sem, sems, Sm.of, Sm.none, fzs, T.fz, List.map_cons, List.map_nil, List.getElem?_cons_succ, List.getElem?_cons_zero, List.set_cons_succ, List.set_cons_zero, Option.some.injEq, T.v.injEq, T.own.injEq, D.int.injEq, D.bl.injEq, D.tup.injEq, D.str.injEq, exists_eq_left', exists_eq_left, Pg.cf, O_add_int, O_sub_int, O_mul_int, O_fdiv_int, O_mod_int, O_lt_int, O_le_int, O_gt_int, O_ge_int, O_eq_int, O_eq_str, O_ne_str, O_int_int, O_abs_int, O_len_str, O_len_own, O_len_lst, O_max2, O_get_ref, O_get_own, O_get_str, O_get_tup, O_get_lst, O_add_str, O_str_int, O_tuple_own, O_aug_add, O_mul_str, O_pow1018, O_in_ch, O_sl_str, O_truth_own, O_truth_bl, O_itemsOf_tup, O_itemsOf_scr, O_list_scr, O_put1, Ws_setTape, ix_0, ix_1, ix_2, ix_3, Ws_appS, decide_eq_true_eq, Bool.not_eq_true', setAll, Bool.false_eq_true, if_false, if_true]
  refine ⟨by show 4 ≤ cap; decide, by decide, ?_⟩
  refine pickP (fun d => strP frontP d = true) (mod_ok (by decide)).1 (mod_ok (by decide)).2 (all_of (by decide)) fun d hd => ?_
  obtain ⟨s, rfl, hs⟩ := strP_of hd
  refine ⟨by decide, by decide, by show 37 ≤ cap; decide, ?_⟩
  have q26 := mod_ok (a := (r : Int) / 16) (b := 26) (by decide)
  obtain ⟨q, hq⟩ := Int.eq_ofNat_of_zero_le q26.1
  rw [hq] at q26
  rw [hq, ix_nat (by show q < 37; omega)]
  have hc : ∀ q, q < 26 → ∃ c, ([97, 98, 99, 100, 101, 102, 103, 104, 105, 106, 107, 108, 109, 110, 111, 112, 113, 114, 115, 116, 117, 118, 119, 120, 121, 122, 48, 49, 50, 51, 52, 53, 54, 55, 56, 57, 95] : List Nat)[q]? = some c ∧ LC c = true := by
    intro q hq
    have := (by decide : ∀ q : Fin 26, (([97, 98, 99, 100, 101, 102, 103, 104, 105, 106, 107, 108, 109, 110, 111, 112, 113, 114, 115, 116, 117, 118, 119, 120, 121, 122, 48, 49, 50, 51, 52, 53, 54, 55, 56, 57, 95] : List Nat)[q.1]?).any LC = true) ⟨q, hq⟩
    obtain ⟨c, h1, h2⟩ := (Option.any_eq_true _ _).mp this
    exact ⟨c, h1, h2⟩
  obtain ⟨c, e, hc⟩ := hc q (by omega)
  rw [e]
  obtain ⟨f1, f2⟩ := front hs hc
  simp only [E_some, E_someP, O_some, Ws_some, O_ite, E_bind1, E_bind2, E_lift1, E_lift2, E_lift2b, E_varE, E_varB, E_truthOf, E_asTest, E_itemsR, E_rngR, E_andR, E_andT, E_orT, E_notT, E_condR, E_callR, E_argsR, E_dispR, E_idxT, E_cutR, E_optI, Ws_seq, Ws_set, Ws_setO, Ws_setT, Ws_setI, Ws_aug, Ws_app, Ws_ex, Ws_ret, Ws_if, Ws_for, Ws_frz, execs, exec, sem, sems, Sm.of, Sm.none, fzs, T.fz, List.map_cons, List.map_nil, List.getElem?_cons_succ, List.getElem?_cons_zero, List.set_cons_succ, List.set_cons_zero, Option.some.injEq, T.v.injEq, T.own.injEq, D.int.injEq, D.bl.injEq, D.tup.injEq, D.str.injEq, exists_eq_left', exists_eq_left, Pg.cf, O_add_int, O_sub_int, O_mul_int, O_fdiv_int, O_mod_int, O_lt_int, O_le_int, O_gt_int, O_ge_int, O_eq_int, O_eq_str, O_ne_str, O_int_int, O_abs_int, O_len_str, O_len_own, O_len_lst, O_max2, O_get_ref, O_get_own, O_get_str, O_get_tup, O_get_lst, O_add_str, O_str_int, O_tuple_own, O_aug_add, O_mul_str, O_pow1018, O_in_ch, O_sl_str, O_truth_own, O_truth_bl, O_itemsOf_tup, O_itemsOf_scr, O_list_scr, O_put1, Ws_setTape, ix_0, ix_1, ix_2, ix_3, Ws_appS, decide_eq_true_eq, Bool.not_eq_true', setAll, Bool.false_eq_true, if_false, if_true]
  refine ⟨?_, by show 4 ≤ cap; decide, by decide, by decide, ?_⟩
  · have : (s ++ [c]).length = s.length + 1 := by simp
    show s.length + 1 ≤ cap
    have : 14 ≤ cap := by decide
    omega
  refine pickP (fun d => intP (fun i => decide (0 ≤ i) && decide (i ≤ 2)) d = true) (mod_ok (by decide)).1 (mod_ok (by decide)).2 (all_of (by decide)) fun d hd => ?_
  obtain ⟨j, rfl, hj⟩ := intP_of hd
  rw [Bool.and_eq_true, decide_eq_true_eq, decide_eq_true_eq] at hj
  refine ⟨j, rfl, by omega, ?_⟩
  refine ws_range (fun i σ S' => ∃ (w : List Nat) (x : Option T), σ = [some (.v (.ref 0)), some (.v (.str [97, 98, 99, 100, 101, 102, 103, 104, 105, 106, 107, 108, 109, 110, 111, 112, 113, 114, 115, 116, 117, 118, 119, 120, 121, 122, 48, 49, 50, 51, 52, 53, 54, 55, 56, 57, 95])), some (.v (.int r)), some (.v (.str w)), x] ∧ S' = S ∧ wordy w ∧ w.length ≤ 14 + i)
    ⟨_, none, rfl, rfl, f1, f2⟩ (fun i σ S' hi j' => ?_) fun σ S' j' => ?_
  · obtain ⟨w, x, rfl, rfl, w1, w2⟩ := j'
    simp only [E_some, E_someP, O_some, Ws_some, O_ite, E_bind1, E_bind2, E_lift1, E_lift2, E_lift2b, E_varE, E_varB, E_truthOf, E_asTest, E_itemsR, E_rngR, E_andR, E_andT, E_orT, E_notT, E_condR, E_callR, E_argsR, E_dispR, E_idxT, E_cutR, E_optI, Ws_seq, Ws_set, Ws_setO, Ws_setT, Ws_setI, Ws_aug, Ws_app, Ws_ex, Ws_ret, Ws_if, Ws_for, Ws_frz, execs, exec, sem, sems, Sm.of, Sm.none, fzs, T.fz, List.map_cons, List.map_nil, List.getElem?_cons_succ, List.getElem?_cons_zero, List.set_cons_succ, List.set_cons_zero, Option.some.injEq, T.v.injEq, T.own.injEq, D.int.injEq, D.bl.injEq, D.tup.injEq, D.str.injEq, exists_eq_left', exists_eq_left, Pg.cf, O_add_int, O_sub_int, O_mul_int, O_fdiv_int, O_mod_int, O_lt_int, O_le_int, O_gt_int, O_ge_int, O_eq_int, O_eq_str, O_ne_str, O_int_int, O_abs_int, O_len_str, O_len_own, O_len_lst, O_max2, O_get_ref, O_get_own, O_get_str, O_get_tup, O_get_lst, O_add_str, O_str_int, O_tuple_own, O_aug_add, O_mul_str, O_pow1018, O_in_ch, O_sl_str, O_truth_own, O_truth_bl, O_itemsOf_tup, O_itemsOf_scr, O_list_scr, O_put1, Ws_setTape, ix_0, ix_1, ix_2, ix_3, Ws_appS, decide_eq_true_eq, Bool.not_eq_true', setAll, Bool.false_eq_true, if_false, if_true]
    refine ⟨by show 2 ≤ cap; decide, ?_⟩
    refine pickP (fun d => intP (fun i => decide (0 < i) && decide (i < 1073741824)) d = true) (by omega) (by show (i : Int) < 2; omega) (all_of (by decide)) fun d hd => ?_
    obtain ⟨z, rfl, hz⟩ := intP_of hd
    rw [Bool.and_eq_true, decide_eq_true_eq, decide_eq_true_eq] at hz
    simp only [E_some, E_someP, O_some, Ws_some, O_ite, E_bind1, E_bind2, E_lift1, E_lift2, E_lift2b, E_varE, E_varB, E_truthOf, E_asTest, E_itemsR, E_rngR, E_andR, E_andT, E_orT, E_notT, E_condR, E_callR, E_argsR, E_dispR, E_idxT, E_cutR, E_optI, Ws_seq, Ws_set, Ws_setO, Ws_setT, Ws_setI, Ws_aug, Ws_app, Ws_ex, Ws_ret, Ws_if, Ws_for, Ws_frz, execs, exec, sem, sems, Sm.of, Sm.none, fzs, T.fz, List.map_cons, List.map_nil, List.getElem?_cons_succ, List.getElem?_cons_zero, List.set_cons_succ, List.set_cons_zero, Option.some.injEq, T.v.injEq, T.own.injEq, D.int.injEq, D.bl.injEq, D.tup.injEq, D.str.injEq, exists_eq_left', exists_eq_left, Pg.cf, O_add_int, O_sub_int, O_mul_int, O_fdiv_int, O_mod_int, O_lt_int, O_le_int, O_gt_int, O_ge_int, O_eq_int, O_eq_str, O_ne_str, O_int_int, O_abs_int, O_len_str, O_len_own, O_len_lst, O_max2, O_get_ref, O_get_own, O_get_str, O_get_tup, O_get_lst, O_add_str, O_str_int, O_tuple_own, O_aug_add, O_mul_str, O_pow1018, O_in_ch, O_sl_str, O_truth_own, O_truth_bl, O_itemsOf_tup, O_itemsOf_scr, O_list_scr, O_put1, Ws_setTape, ix_0, ix_1, ix_2, ix_3, Ws_appS, decide_eq_true_eq, Bool.not_eq_true', setAll, Bool.false_eq_true, if_false, if_true]
    refine ⟨hz, by decide, by show 37 ≤ cap; decide, ?_⟩
    refine pickP (fun c => WC c = true) (mod_ok (by decide)).1 (mod_ok (by decide)).2 (all_of (by decide)) fun c hc => ?_
    refine ⟨?_, _, _, rfl, trivial, w1.app hc, by simp; omega⟩
    show w.length + 1 ≤ cap
    have : 100 ≤ cap := by decide
    omega
  · obtain ⟨w, x, rfl, rfl, w1, w2⟩ := j'
    simp only [E_some, E_someP, O_some, Ws_some, O_ite, E_bind1, E_bind2, E_lift1, E_lift2, E_lift2b, E_varE, E_varB, E_truthOf, E_asTest, E_itemsR, E_rngR, E_andR, E_andT, E_orT, E_notT, E_condR, E_callR, E_argsR, E_dispR, E_idxT, E_cutR, E_optI, Ws_seq, Ws_set, Ws_setO, Ws_setT, Ws_setI, Ws_aug, Ws_app, Ws_ex, Ws_ret, Ws_if, Ws_for, Ws_frz, execs, exec, sem, sems, Sm.of, Sm.none, fzs, T.fz, List.map_cons, List.map_nil, List.getElem?_cons_succ, List.getElem?_cons_zero, List.set_cons_succ, List.set_cons_zero, Option.some.injEq, T.v.injEq, T.own.injEq, D.int.injEq, D.bl.injEq, D.tup.injEq, D.str.injEq, exists_eq_left', exists_eq_left, Pg.cf, O_add_int, O_sub_int, O_mul_int, O_fdiv_int, O_mod_int, O_lt_int, O_le_int, O_gt_int, O_ge_int, O_eq_int, O_eq_str, O_ne_str, O_int_int, O_abs_int, O_len_str, O_len_own, O_len_lst, O_max2, O_get_ref, O_get_own, O_get_str, O_get_tup, O_get_lst, O_add_str, O_str_int, O_tuple_own, O_aug_add, O_mul_str, O_pow1018, O_in_ch, O_sl_str, O_truth_own, O_truth_bl, O_itemsOf_tup, O_itemsOf_scr, O_list_scr, O_put1, Ws_setTape, ix_0, ix_1, ix_2, ix_3, Ws_appS, decide_eq_true_eq, Bool.not_eq_true', setAll, Bool.false_eq_true, if_false, if_true]
    refine ⟨by show 10 ≤ cap; decide, ?_⟩
    rw [O_in_own (by decide)]
    have c0 : 100 ≤ cap := by decide
    have w3 : w.length ≤ 16 := by omega
    split
    · rename_i hin
      have hl := any_str (P := fun s => decide (s.length ≤ 3)) (by decide) hin
      rw [decide_eq_true_eq] at hl
      refine ⟨by show w.length + 1 ≤ cap; omega, ⟨w1.app (by decide), by simp; omega⟩, t⟩
    · exact ⟨⟨w1, w3⟩, t⟩
/-- the signs of a string of the law -/
def SC (c : Nat) : Bool := decide (32 ≤ c) && decide (c ≤ 126)
def texty (s : List Nat) : Prop := s.all SC = true ∧ s.length ≤ 20
theorem textyJ {w : List Nat} {c n : Nat} (h : w.all SC = true ∧ w.length ≤ n) (hc : SC c = true) : (w ++ [c]).all SC = true ∧ (w ++ [c]).length ≤ n + 1 := by
  refine ⟨?_, by have := h.2; simp; omega⟩
  rw [List.all_append, h.1]
  simp [hc]
theorem cap_ge {n : Nat} (h : n ≤ 10000) : n ≤ cap := Nat.le_trans h (by decide)
theorem text (k : Nat) {ns : List Int} {S : Sto} (h : Tp ns S) : E (call pg (k + 2) 10 [.ref 0] S) fun x S' => ∃ w : List Nat, x = .v (.str w) ∧ texty w ∧ Tp ns S' := by
  refine E_call2 (fd := c_law_text) rfl rfl (σ := [some (.v (.ref 0)), none, none, none, none]) rfl ?_
  simp only [c_law_text, E_some, E_someP, O_some, Ws_some, O_ite, E_bind1, E_bind2, E_lift1, E_lift2, E_lift2b, E_varE, E_varB, E_truthOf, E_asTest, E_itemsR, E_rngR, E_andR, E_andT, E_orT, E_notT, E_condR, E_callR, E_argsR, E_dispR, E_idxT, E_cutR, E_optI, Ws_seq, Ws_set, Ws_setO, Ws_setT, Ws_setI, Ws_aug, Ws_app, Ws_ex, Ws_ret, Ws_if, Ws_for, Ws_frz, execs, exec, sem, sems, Sm.of, Sm.none, fzs, T.fz, List.map_cons, List.map_nil, List.getElem?_cons_succ, List.getElem?_cons_zero, List.set_cons_succ, List.set_cons_zero, Option.some.injEq, T.v.injEq, T.own.injEq, D.int.injEq, D.bl.injEq, D.tup.injEq, D.str.injEq, exists_eq_left', exists_eq_left, Pg.cf, O_add_int, O_sub_int, O_mul_int, O_fdiv_int, O_mod_int, O_lt_int, O_le_int, O_gt_int, O_ge_int, O_eq_int, O_eq_str, O_ne_str, O_int_int, O_abs_int, O_len_str, O_len_own, O_len_lst, O_max2, O_get_ref, O_get_own, O_get_str, O_get_tup, O_get_lst, O_add_str, O_str_int, O_tuple_own, O_aug_add, O_mul_str, O_pow1018, O_in_ch, O_sl_str, O_truth_own, O_truth_bl, O_itemsOf_tup, O_itemsOf_scr, O_list_scr, O_put1, Ws_setTape, ix_0, ix_1, ix_2, ix_3, Ws_appS, decide_eq_true_eq, Bool.not_eq_true', setAll, Bool.false_eq_true, if_false, if_true]
  refine draw k h (by decide) (by decide) fun r S h2 t => ?_
  simp only [E_some, E_someP, O_some, Ws_some, O_ite, E_bind1, E_bind2, E_lift1, E_lift2, E_lift2b, E_varE, E_varB, E_truthOf, E_asTest, E_itemsR, E_rngR, E_andR, E_andT, E_orT, E_notT, E_condR, E_callR, E_argsR, E_dispR, E_idxT, E_cutR, E_optI, Ws_seq, Ws_set, Ws_setO, Ws_setT, Ws_setI, Ws_aug, Ws_app, Ws_ex, Ws_ret, Ws_if, Ws_for, Ws_frz, execs, exec, sem, sems, Sm.of, Sm.none, fzs, T.fz, List.map_cons, List.map_nil, List.getElem?_cons_succ, List.getElem?_cons_zero, List.set_cons_succ, List.set_cons_zero, Option.some.injEq, T.v.injEq, T.own.injEq, D.int.injEq, D.bl.injEq, D.tup.injEq, D.str.injEq, exists_eq_left', exists_eq_left, Pg.cf, O_add_int, O_sub_int, O_mul_int, O_fdiv_int, O_mod_int, O_lt_int, O_le_int, O_gt_int, O_ge_int, O_eq_int, O_eq_str, O_ne_str, O_int_int, O_abs_int, O_len_str, O_len_own, O_len_lst, O_max2, O_get_ref, O_get_own, O_get_str, O_get_tup, O_get_lst, O_add_str, O_str_int, O_tuple_own, O_aug_add, O_mul_str, O_pow1018, O_in_ch, O_sl_str, O_truth_own, O_truth_bl, O_itemsOf_tup, O_itemsOf_scr, O_list_scr, O_put1, Ws_setTape, ix_0, ix_1, ix_2, ix_3, Ws_appS, decide_eq_true_eq, Bool.not_eq_true', setAll, Bool.false_eq_true, if_false, if_true]
  have q8 := mod_ok (a := (r : Int)) (b := 8) (by decide)
  refine ⟨by decide, ?_⟩
  split
  · refine ⟨cap_ge (by decide), ?_⟩
    refine pickP (fun d => intP (fun i => decide (0 ≤ i) && decide (i ≤ 3)) d = true) q8.1 (by assumption) (all_of (by decide)) fun d hd => ?_
    obtain ⟨j, rfl, hj⟩ := intP_of hd
    rw [Bool.and_eq_true, decide_eq_true_eq, decide_eq_true_eq] at hj
    refine ⟨j, rfl, by omega, ?_⟩
    refine ws_range (fun i σ S' => ∃ (w : List Nat) (x : Option T), σ = [some (.v (.ref 0)), some (.v (.int r)), some (.v (.int ((r : Int) % 8))), some (.v (.str w)), x] ∧ S' = S ∧ w.all SC = true ∧ w.length ≤ i)
      ⟨_, none, rfl, rfl, rfl, Nat.le_refl _⟩ (fun i σ S' hi j' => ?_) fun σ S' j' => ?_
    · obtain ⟨w, x, rfl, rfl, w1⟩ := j'
      simp only [E_some, E_someP, O_some, Ws_some, O_ite, E_bind1, E_bind2, E_lift1, E_lift2, E_lift2b, E_varE, E_varB, E_truthOf, E_asTest, E_itemsR, E_rngR, E_andR, E_andT, E_orT, E_notT, E_condR, E_callR, E_argsR, E_dispR, E_idxT, E_cutR, E_optI, Ws_seq, Ws_set, Ws_setO, Ws_setT, Ws_setI, Ws_aug, Ws_app, Ws_ex, Ws_ret, Ws_if, Ws_for, Ws_frz, execs, exec, sem, sems, Sm.of, Sm.none, fzs, T.fz, List.map_cons, List.map_nil, List.getElem?_cons_succ, List.getElem?_cons_zero, List.set_cons_succ, List.set_cons_zero, Option.some.injEq, T.v.injEq, T.own.injEq, D.int.injEq, D.bl.injEq, D.tup.injEq, D.str.injEq, exists_eq_left', exists_eq_left, Pg.cf, O_add_int, O_sub_int, O_mul_int, O_fdiv_int, O_mod_int, O_lt_int, O_le_int, O_gt_int, O_ge_int, O_eq_int, O_eq_str, O_ne_str, O_int_int, O_abs_int, O_len_str, O_len_own, O_len_lst, O_max2, O_get_ref, O_get_own, O_get_str, O_get_tup, O_get_lst, O_add_str, O_str_int, O_tuple_own, O_aug_add, O_mul_str, O_pow1018, O_in_ch, O_sl_str, O_truth_own, O_truth_bl, O_itemsOf_tup, O_itemsOf_scr, O_list_scr, O_put1, Ws_setTape, ix_0, ix_1, ix_2, ix_3, Ws_appS, decide_eq_true_eq, Bool.not_eq_true', setAll, Bool.false_eq_true, if_false, if_true]
      refine ⟨cap_ge (by decide), ?_⟩
      refine pickP (fun d => intP (fun i => decide (0 < i) && decide (i < 1073741824)) d = true) (by omega) (by show (i : Int) < 3; omega) (all_of (by decide)) fun d hd => ?_
      obtain ⟨z, rfl, hz⟩ := intP_of hd
      rw [Bool.and_eq_true, decide_eq_true_eq, decide_eq_true_eq] at hz
      simp only [E_some, E_someP, O_some, Ws_some, O_ite, E_bind1, E_bind2, E_lift1, E_lift2, E_lift2b, E_varE, E_varB, E_truthOf, E_asTest, E_itemsR, E_rngR, E_andR, E_andT, E_orT, E_notT, E_condR, E_callR, E_argsR, E_dispR, E_idxT, E_cutR, E_optI, Ws_seq, Ws_set, Ws_setO, Ws_setT, Ws_setI, Ws_aug, Ws_app, Ws_ex, Ws_ret, Ws_if, Ws_for, Ws_frz, execs, exec, sem, sems, Sm.of, Sm.none, fzs, T.fz, List.map_cons, List.map_nil, List.getElem?_cons_succ, List.getElem?_cons_zero, List.set_cons_succ, List.set_cons_zero, Option.some.injEq, T.v.injEq, T.own.injEq, D.int.injEq, D.bl.injEq, D.tup.injEq, D.str.injEq, exists_eq_left', exists_eq_left, Pg.cf, O_add_int, O_sub_int, O_mul_int, O_fdiv_int, O_mod_int, O_lt_int, O_le_int, O_gt_int, O_ge_int, O_eq_int, O_eq_str, O_ne_str, O_int_int, O_abs_int, O_len_str, O_len_own, O_len_lst, O_max2, O_get_ref, O_get_own, O_get_str, O_get_tup, O_get_lst, O_add_str, O_str_int, O_tuple_own, O_aug_add, O_mul_str, O_pow1018, O_in_ch, O_sl_str, O_truth_own, O_truth_bl, O_itemsOf_tup, O_itemsOf_scr, O_list_scr, O_put1, Ws_setTape, ix_0, ix_1, ix_2, ix_3, Ws_appS, decide_eq_true_eq, Bool.not_eq_true', setAll, Bool.false_eq_true, if_false, if_true]
      refine ⟨hz, by decide, cap_ge (by decide), ?_⟩
      refine pickP (fun c => SC c = true) (mod_ok (by decide)).1 (mod_ok (by decide)).2 (all_of (by decide)) fun c hc => ?_
      exact ⟨cap_ge (by have := w1.2; show w.length + 1 ≤ _; omega), _, _, rfl, trivial, textyJ w1 hc⟩
    · obtain ⟨w, x, rfl, rfl, w1⟩ := j'
      simp only [E_some, E_someP, O_some, Ws_some, O_ite, E_bind1, E_bind2, E_lift1, E_lift2, E_lift2b, E_varE, E_varB, E_truthOf, E_asTest, E_itemsR, E_rngR, E_andR, E_andT, E_orT, E_notT, E_condR, E_callR, E_argsR, E_dispR, E_idxT, E_cutR, E_optI, Ws_seq, Ws_set, Ws_setO, Ws_setT, Ws_setI, Ws_aug, Ws_app, Ws_ex, Ws_ret, Ws_if, Ws_for, Ws_frz, execs, exec, sem, sems, Sm.of, Sm.none, fzs, T.fz, List.map_cons, List.map_nil, List.getElem?_cons_succ, List.getElem?_cons_zero, List.set_cons_succ, List.set_cons_zero, Option.some.injEq, T.v.injEq, T.own.injEq, D.int.injEq, D.bl.injEq, D.tup.injEq, D.str.injEq, exists_eq_left', exists_eq_left, Pg.cf, O_add_int, O_sub_int, O_mul_int, O_fdiv_int, O_mod_int, O_lt_int, O_le_int, O_gt_int, O_ge_int, O_eq_int, O_eq_str, O_ne_str, O_int_int, O_abs_int, O_len_str, O_len_own, O_len_lst, O_max2, O_get_ref, O_get_own, O_get_str, O_get_tup, O_get_lst, O_add_str, O_str_int, O_tuple_own, O_aug_add, O_mul_str, O_pow1018, O_in_ch, O_sl_str, O_truth_own, O_truth_bl, O_itemsOf_tup, O_itemsOf_scr, O_list_scr, O_put1, Ws_setTape, ix_0, ix_1, ix_2, ix_3, Ws_appS, decide_eq_true_eq, Bool.not_eq_true', setAll, Bool.false_eq_true, if_false, if_true]
      exact ⟨⟨w1.1, by have := w1.2; omega⟩, t⟩
  · refine ⟨by decide, cap_ge (by show 2 ≤ 10000; decide), ?_⟩
    refine pickP (fun d => ∃ j : Int, d = .int j ∧ 0 ≤ j ∧ j ≤ 20) (by omega) (by show (r : Int) % 8 - 6 < 2; omega) (fun d hd => ?_) fun d hd => ?_
    · rcases List.mem_cons.mp hd with rfl | hd
      · exact ⟨20, rfl, by decide, by decide⟩
      · rcases List.mem_cons.mp hd with rfl | hd
        · exact ⟨_, rfl, by omega, by omega⟩
        · cases hd
    obtain ⟨j, rfl, hj⟩ := hd
    refine ⟨j, rfl, by omega, ?_⟩
    refine ws_range (fun i σ S' => ∃ (w : List Nat) (x : Option T), σ = [some (.v (.ref 0)), some (.v (.int r)), some (.v (.int ((r : Int) % 8))), some (.v (.str w)), x] ∧ Tp ns S' ∧ w.all SC = true ∧ w.length ≤ i)
      ⟨_, none, rfl, t, rfl, Nat.le_refl _⟩ (fun i σ S' hi j' => ?_) fun σ S' j' => ?_
    · obtain ⟨w, x, rfl, t', w1⟩ := j'
      simp only [E_some, E_someP, O_some, Ws_some, O_ite, E_bind1, E_bind2, E_lift1, E_lift2, E_lift2b, E_varE, E_varB, E_truthOf, E_asTest, E_itemsR, E_rngR, E_andR, E_andT, E_orT, E_notT, E_condR, E_callR, E_argsR, E_dispR, E_idxT, E_cutR, E_optI, Ws_seq, Ws_set, Ws_setO, Ws_setT, Ws_setI, Ws_aug, Ws_app, Ws_ex, Ws_ret, Ws_if, Ws_for, Ws_frz, execs, exec, sem, sems, Sm.of, Sm.none, fzs, T.fz, List.map_cons, List.map_nil, List.getElem?_cons_succ, List.getElem?_cons_zero, List.set_cons_succ, List.set_cons_zero, Option.some.injEq, T.v.injEq, T.own.injEq, D.int.injEq, D.bl.injEq, D.tup.injEq, D.str.injEq, exists_eq_left', exists_eq_left, Pg.cf, O_add_int, O_sub_int, O_mul_int, O_fdiv_int, O_mod_int, O_lt_int, O_le_int, O_gt_int, O_ge_int, O_eq_int, O_eq_str, O_ne_str, O_int_int, O_abs_int, O_len_str, O_len_own, O_len_lst, O_max2, O_get_ref, O_get_own, O_get_str, O_get_tup, O_get_lst, O_add_str, O_str_int, O_tuple_own, O_aug_add, O_mul_str, O_pow1018, O_in_ch, O_sl_str, O_truth_own, O_truth_bl, O_itemsOf_tup, O_itemsOf_scr, O_list_scr, O_put1, Ws_setTape, ix_0, ix_1, ix_2, ix_3, Ws_appS, decide_eq_true_eq, Bool.not_eq_true', setAll, Bool.false_eq_true, if_false, if_true]
      refine ⟨_, _, signs k S', ?_⟩
      refine draw k t' (by decide) (by decide) fun q S2 hq t2 => ?_
      simp only [E_some, E_someP, O_some, Ws_some, O_ite, E_bind1, E_bind2, E_lift1, E_lift2, E_lift2b, E_varE, E_varB, E_truthOf, E_asTest, E_itemsR, E_rngR, E_andR, E_andT, E_orT, E_notT, E_condR, E_callR, E_argsR, E_dispR, E_idxT, E_cutR, E_optI, Ws_seq, Ws_set, Ws_setO, Ws_setT, Ws_setI, Ws_aug, Ws_app, Ws_ex, Ws_ret, Ws_if, Ws_for, Ws_frz, execs, exec, sem, sems, Sm.of, Sm.none, fzs, T.fz, List.map_cons, List.map_nil, List.getElem?_cons_succ, List.getElem?_cons_zero, List.set_cons_succ, List.set_cons_zero, Option.some.injEq, T.v.injEq, T.own.injEq, D.int.injEq, D.bl.injEq, D.tup.injEq, D.str.injEq, exists_eq_left', exists_eq_left, Pg.cf, O_add_int, O_sub_int, O_mul_int, O_fdiv_int, O_mod_int, O_lt_int, O_le_int, O_gt_int, O_ge_int, O_eq_int, O_eq_str, O_ne_str, O_int_int, O_abs_int, O_len_str, O_len_own, O_len_lst, O_max2, O_get_ref, O_get_own, O_get_str, O_get_tup, O_get_lst, O_add_str, O_str_int, O_tuple_own, O_aug_add, O_mul_str, O_pow1018, O_in_ch, O_sl_str, O_truth_own, O_truth_bl, O_itemsOf_tup, O_itemsOf_scr, O_list_scr, O_put1, Ws_setTape, ix_0, ix_1, ix_2, ix_3, Ws_appS, decide_eq_true_eq, Bool.not_eq_true', setAll, Bool.false_eq_true, if_false, if_true]
      refine ⟨cap_ge (by decide), ?_⟩
      refine pickP (fun c => SC c = true) (by omega) hq (all_of (by decide)) fun c hc => ?_
      exact ⟨cap_ge (by have := w1.2; show w.length + 1 ≤ _; omega), _, _, rfl, t2, textyJ w1 hc⟩
    · obtain ⟨w, x, rfl, t', w1⟩ := j'
      simp only [E_some, E_someP, O_some, Ws_some, O_ite, E_bind1, E_bind2, E_lift1, E_lift2, E_lift2b, E_varE, E_varB, E_truthOf, E_asTest, E_itemsR, E_rngR, E_andR, E_andT, E_orT, E_notT, E_condR, E_callR, E_argsR, E_dispR, E_idxT, E_cutR, E_optI, Ws_seq, Ws_set, Ws_setO, Ws_setT, Ws_setI, Ws_aug, Ws_app, Ws_ex, Ws_ret, Ws_if, Ws_for, Ws_frz, execs, exec, sem, sems, Sm.of, Sm.none, fzs, T.fz, List.map_cons, List.map_nil, List.getElem?_cons_succ, List.getElem?_cons_zero, List.set_cons_succ, List.set_cons_zero, Option.some.injEq, T.v.injEq, T.own.injEq, D.int.injEq, D.bl.injEq, D.tup.injEq, D.str.injEq, exists_eq_left', exists_eq_left, Pg.cf, O_add_int, O_sub_int, O_mul_int, O_fdiv_int, O_mod_int, O_lt_int, O_le_int, O_gt_int, O_ge_int, O_eq_int, O_eq_str, O_ne_str, O_int_int, O_abs_int, O_len_str, O_len_own, O_len_lst, O_max2, O_get_ref, O_get_own, O_get_str, O_get_tup, O_get_lst, O_add_str, O_str_int, O_tuple_own, O_aug_add, O_mul_str, O_pow1018, O_in_ch, O_sl_str, O_truth_own, O_truth_bl, O_itemsOf_tup, O_itemsOf_scr, O_list_scr, O_put1, Ws_setTape, ix_0, ix_1, ix_2, ix_3, Ws_appS, decide_eq_true_eq, Bool.not_eq_true', setAll, Bool.false_eq_true, if_false, if_true]
      exact ⟨⟨w1.1, by have := w1.2; omega⟩, t'⟩
def wordB (w : List Nat) : Bool := !w.isEmpty && (LC (w.headD 0) && (w.tail.all WC && decide (w.length ≤ 16)))
theorem wordB_of {w : List Nat} (h : wordB w = true) : wordy w ∧ w.length ≤ 16 := by
  unfold wordB at h
  rw [Bool.and_eq_true, Bool.and_eq_true, Bool.and_eq_true, decide_eq_true_eq] at h
  obtain ⟨h1, h2, h3, h4⟩ := h
  cases w with
  | nil => cases h1
  | cons c r => exact ⟨⟨c, r, rfl, h2, h3⟩, h4⟩
theorem word (k : Nat) {ns : List Int} {S : Sto} (h : Tp ns S) : E (call pg (k + 3) 11 [.ref 0] S) fun x S' => ∃ w : List Nat, x = .v (.str w) ∧ (wordy w ∧ w.length ≤ 16) ∧ Tp ns S' := by
  refine E_call2 (fd := c_law_word) rfl rfl (σ := [some (.v (.ref 0)), none]) rfl ?_
  simp only [c_law_word, E_some, E_someP, O_some, Ws_some, O_ite, E_bind1, E_bind2, E_lift1, E_lift2, E_lift2b, E_varE, E_varB, E_truthOf, E_asTest, E_itemsR, E_rngR, E_andR, E_andT, E_orT, E_notT, E_condR, E_callR, E_argsR, E_dispR, E_idxT, E_cutR, E_optI, Ws_seq, Ws_set, Ws_setO, Ws_setT, Ws_setI, Ws_aug, Ws_app, Ws_ex, Ws_ret, Ws_if, Ws_for, Ws_frz, execs, exec, sem, sems, Sm.of, Sm.none, fzs, T.fz, List.map_cons, List.map_nil, List.getElem?_cons_succ, List.getElem?_cons_zero, List.set_cons_succ, List.set_cons_zero, Option.some.injEq, T.v.injEq, T.own.injEq, D.int.injEq, D.bl.injEq, D.tup.injEq, D.str.injEq, exists_eq_left', exists_eq_left, Pg.cf, O_add_int, O_sub_int, O_mul_int, O_fdiv_int, O_mod_int, O_lt_int, O_le_int, O_gt_int, O_ge_int, O_eq_int, O_eq_str, O_ne_str, O_int_int, O_abs_int, O_len_str, O_len_own, O_len_lst, O_max2, O_get_ref, O_get_own, O_get_str, O_get_tup, O_get_lst, O_add_str, O_str_int, O_tuple_own, O_aug_add, O_mul_str, O_pow1018, O_in_ch, O_sl_str, O_truth_own, O_truth_bl, O_itemsOf_tup, O_itemsOf_scr, O_list_scr, O_put1, Ws_setTape, ix_0, ix_1, ix_2, ix_3, Ws_appS, decide_eq_true_eq, Bool.not_eq_true', setAll, Bool.false_eq_true, if_false, if_true]
  refine ⟨by decide, cap_ge (by decide), ?_⟩
  refine draw (k + 1) h (by decide) (by decide) fun r S h2 t => ?_
  simp only [E_some, E_someP, O_some, Ws_some, O_ite, E_bind1, E_bind2, E_lift1, E_lift2, E_lift2b, E_varE, E_varB, E_truthOf, E_asTest, E_itemsR, E_rngR, E_andR, E_andT, E_orT, E_notT, E_condR, E_callR, E_argsR, E_dispR, E_idxT, E_cutR, E_optI, Ws_seq, Ws_set, Ws_setO, Ws_setT, Ws_setI, Ws_aug, Ws_app, Ws_ex, Ws_ret, Ws_if, Ws_for, Ws_frz, execs, exec, sem, sems, Sm.of, Sm.none, fzs, T.fz, List.map_cons, List.map_nil, List.getElem?_cons_succ, List.getElem?_cons_zero, List.set_cons_succ, List.set_cons_zero, Option.some.injEq, T.v.injEq, T.own.injEq, D.int.injEq, D.bl.injEq, D.tup.injEq, D.str.injEq, exists_eq_left', exists_eq_left, Pg.cf, O_add_int, O_sub_int, O_mul_int, O_fdiv_int, O_mod_int, O_lt_int, O_le_int, O_gt_int, O_ge_int, O_eq_int, O_eq_str, O_ne_str, O_int_int, O_abs_int, O_len_str, O_len_own, O_len_lst, O_max2, O_get_ref, O_get_own, O_get_str, O_get_tup, O_get_lst, O_add_str, O_str_int, O_tuple_own, O_aug_add, O_mul_str, O_pow1018, O_in_ch, O_sl_str, O_truth_own, O_truth_bl, O_itemsOf_tup, O_itemsOf_scr, O_list_scr, O_put1, Ws_setTape, ix_0, ix_1, ix_2, ix_3, Ws_appS, decide_eq_true_eq, Bool.not_eq_true', setAll, Bool.false_eq_true, if_false, if_true]
  split
  · refine draw (k + 1) t (by decide) (by decide) fun r S h2 t => ?_
    simp only [E_some, E_someP, O_some, Ws_some, O_ite, E_bind1, E_bind2, E_lift1, E_lift2, E_lift2b, E_varE, E_varB, E_truthOf, E_asTest, E_itemsR, E_rngR, E_andR, E_andT, E_orT, E_notT, E_condR, E_callR, E_argsR, E_dispR, E_idxT, E_cutR, E_optI, Ws_seq, Ws_set, Ws_setO, Ws_setT, Ws_setI, Ws_aug, Ws_app, Ws_ex, Ws_ret, Ws_if, Ws_for, Ws_frz, execs, exec, sem, sems, Sm.of, Sm.none, fzs, T.fz, List.map_cons, List.map_nil, List.getElem?_cons_succ, List.getElem?_cons_zero, List.set_cons_succ, List.set_cons_zero, Option.some.injEq, T.v.injEq, T.own.injEq, D.int.injEq, D.bl.injEq, D.tup.injEq, D.str.injEq, exists_eq_left', exists_eq_left, Pg.cf, O_add_int, O_sub_int, O_mul_int, O_fdiv_int, O_mod_int, O_lt_int, O_le_int, O_gt_int, O_ge_int, O_eq_int, O_eq_str, O_ne_str, O_int_int, O_abs_int, O_len_str, O_len_own, O_len_lst, O_max2, O_get_ref, O_get_own, O_get_str, O_get_tup, O_get_lst, O_add_str, O_str_int, O_tuple_own, O_aug_add, O_mul_str, O_pow1018, O_in_ch, O_sl_str, O_truth_own, O_truth_bl, O_itemsOf_tup, O_itemsOf_scr, O_list_scr, O_put1, Ws_setTape, ix_0, ix_1, ix_2, ix_3, Ws_appS, decide_eq_true_eq, Bool.not_eq_true', setAll, Bool.false_eq_true, if_false, if_true]
    refine pickP (fun d => strP wordB d = true) (by omega) h2 (all_of (by decide)) fun d hd => ?_
    obtain ⟨s, rfl, hs⟩ := strP_of hd
    exact ⟨s, rfl, wordB_of hs, t⟩
  · exact name (k + 1) t
/-! ### tokens -/
inductive Tk where
  | word (w : List Nat)
  | num (n : Nat) (t : List Nat)
  | str (s : List Nat)
  | sym (y : List Nat)
abbrev kWord : List Nat := [119, 111, 114, 100]
abbrev kNum : List Nat := [110, 117, 109, 98, 101, 114]
abbrev kStr : List Nat := [115, 116, 114, 105, 110, 103]
abbrev kSym : List Nat := [115, 121, 109, 98, 111, 108]
def Tk.kind : Tk → List Nat
  | .word _ => kWord
  | .num _ _ => kNum
  | .str _ => kStr
  | .sym _ => kSym
def Tk.val : Tk → D
  | .word w => .str w
  | .num n _ => .int (n : Int)
  | .str s => .str s
  | .sym y => .str y
def Tk.txt : Tk → List Nat
  | .word w => w
  | .num _ t => t
  | .str s => 39 :: (dbl 39 s ++ [39])
  | .sym y => y
def SYMS : List (List Nat) := [[33, 61], [60, 61], [62, 61], [40], [41], [44], [59], [124], [61], [60], [62], [43], [45], [58]]
def Tk.ok : Tk → Prop
  | .word w => wordy w ∧ w.length ≤ 16
  | .num n t => n ≤ 1000000 ∧ t ≠ [] ∧ t.all DC = true ∧ t.length ≤ 7 ∧ PySem.NumText.digitsVal t = n
  | .str s => texty s
  | .sym y => y ∈ SYMS
def Tk.d (t : Tk) : D := .tup [.str t.kind, t.val, .str t.txt]
theorem decI_nat (n : Nat) : decI (n : Int) = (Nat.toDigits 10 n).map Char.toNat := by
  show (Nat.repr n).toList.map Char.toNat = _
  rw [Nat.toList_repr]
theorem decI_all (n : Nat) : (decI (n : Int)).all DC = true := by
  rw [decI_nat, List.all_eq_true]
  intro c hc
  obtain ⟨ch, hch, e⟩ := List.mem_map.mp hc
  have r := PyProof.Rows.digit_range (Nat.isDigit_of_mem_toDigits (by decide) (by decide) hch)
  rw [← e]
  unfold DC
  rw [Bool.and_eq_true, decide_eq_true_eq, decide_eq_true_eq]
  exact r
theorem decI_val (n : Nat) : PySem.NumText.digitsVal (decI (n : Int)) = n := by
  rw [decI_nat]
  exact PySem.W.KIN.val_back n
theorem decI_pos (n : Nat) : 1 ≤ (decI (n : Int)).length := by
  rw [decI_nat, List.length_map]
  exact Nat.length_toDigits_pos
theorem decI_len {n : Nat} (h : n < 10 ^ 7) : (decI (n : Int)).length ≤ 7 := by
  rw [decI_nat, List.length_map]
  exact (Nat.length_toDigits_le_iff (by decide) (by decide)).mpr h
theorem decI_tok {n j : Nat} (h : n ≤ 1000000) (hl : j + (decI (n : Int)).length ≤ 7) : (Tk.num n (List.replicate j 48 ++ decI (n : Int))).ok := by
  have p := decI_pos n
  refine ⟨h, ?_, ?_, ?_, ?_⟩
  · intro e
    have := congrArg List.length e
    rw [List.length_append, List.length_replicate, List.length_nil] at this
    omega
  · rw [List.all_append, decI_all, Bool.and_true, List.all_replicate]
    split <;> rfl
  · rw [List.length_append, List.length_replicate]
    exact hl
  · have e : ∀ (t : List Nat) j, PySem.NumText.digitsVal (List.replicate j 48 ++ t) = PySem.NumText.digitsVal t := fun t j => by
      unfold PySem.NumText.digitsVal
      rw [List.foldl_append]
      have : ∀ j, (List.replicate j 48).foldl (fun acc c => acc * 10 + (c - 48)) 0 = 0 := fun j => by
        induction j with
        | zero => rfl
        | succ j ih => exact ih
      rw [this j]
    rw [e, decI_val]
theorem dbl_len (s : List Nat) : (dbl 39 s).length ≤ 2 * s.length := by
  induction s with
  | nil => exact Nat.le_refl _
  | cons c s ih =>
    show ((if c = 39 then [39, 39] else [c]) ++ dbl 39 s).length ≤ _
    rw [List.length_append, List.length_cons]
    split <;> simp <;> omega
theorem one (k : Nat) {ns : List Int} {S : Sto} (h : Tp ns S) : E (call pg (k + 4) 12 [.ref 0] S) fun x S' => ∃ t : Tk, x = .v t.d ∧ t.ok ∧ Tp ns S' := by
  refine E_call2 (fd := c_law_one) rfl rfl (σ := [some (.v (.ref 0)), none, none, none, none, none, none]) rfl ?_
  simp only [c_law_one, E_some, E_someP, O_some, Ws_some, O_ite, E_bind1, E_bind2, E_lift1, E_lift2, E_lift2b, E_varE, E_varB, E_truthOf, E_asTest, E_itemsR, E_rngR, E_andR, E_andT, E_orT, E_notT, E_condR, E_callR, E_argsR, E_dispR, E_idxT, E_cutR, E_optI, Ws_seq, Ws_set, Ws_setO, Ws_setT, Ws_setI, Ws_aug, Ws_app, Ws_ex, Ws_ret, Ws_if, Ws_for, Ws_frz, execs, exec, sem, sems, Sm.of, Sm.none, fzs, T.fz, List.map_cons, List.map_nil, List.getElem?_cons_succ, List.getElem?_cons_zero, List.set_cons_succ, List.set_cons_zero, Option.some.injEq, T.v.injEq, T.own.injEq, D.int.injEq, D.bl.injEq, D.tup.injEq, D.str.injEq, exists_eq_left', exists_eq_left, Pg.cf, O_add_int, O_sub_int, O_mul_int, O_fdiv_int, O_mod_int, O_lt_int, O_le_int, O_gt_int, O_ge_int, O_eq_int, O_eq_str, O_ne_str, O_int_int, O_abs_int, O_len_str, O_len_own, O_len_lst, O_max2, O_get_ref, O_get_own, O_get_str, O_get_tup, O_get_lst, O_add_str, O_str_int, O_tuple_own, O_aug_add, O_mul_str, O_pow1018, O_in_ch, O_sl_str, O_truth_own, O_truth_bl, O_itemsOf_tup, O_itemsOf_scr, O_list_scr, O_put1, Ws_setTape, ix_0, ix_1, ix_2, ix_3, Ws_appS, decide_eq_true_eq, Bool.not_eq_true', setAll, Bool.false_eq_true, if_false, if_true]
  refine draw (k + 2) h (by decide) (by decide) fun r S h2 t => ?_
  simp only [E_some, E_someP, O_some, Ws_some, O_ite, E_bind1, E_bind2, E_lift1, E_lift2, E_lift2b, E_varE, E_varB, E_truthOf, E_asTest, E_itemsR, E_rngR, E_andR, E_andT, E_orT, E_notT, E_condR, E_callR, E_argsR, E_dispR, E_idxT, E_cutR, E_optI, Ws_seq, Ws_set, Ws_setO, Ws_setT, Ws_setI, Ws_aug, Ws_app, Ws_ex, Ws_ret, Ws_if, Ws_for, Ws_frz, execs, exec, sem, sems, Sm.of, Sm.none, fzs, T.fz, List.map_cons, List.map_nil, List.getElem?_cons_succ, List.getElem?_cons_zero, List.set_cons_succ, List.set_cons_zero, Option.some.injEq, T.v.injEq, T.own.injEq, D.int.injEq, D.bl.injEq, D.tup.injEq, D.str.injEq, exists_eq_left', exists_eq_left, Pg.cf, O_add_int, O_sub_int, O_mul_int, O_fdiv_int, O_mod_int, O_lt_int, O_le_int, O_gt_int, O_ge_int, O_eq_int, O_eq_str, O_ne_str, O_int_int, O_abs_int, O_len_str, O_len_own, O_len_lst, O_max2, O_get_ref, O_get_own, O_get_str, O_get_tup, O_get_lst, O_add_str, O_str_int, O_tuple_own, O_aug_add, O_mul_str, O_pow1018, O_in_ch, O_sl_str, O_truth_own, O_truth_bl, O_itemsOf_tup, O_itemsOf_scr, O_list_scr, O_put1, Ws_setTape, ix_0, ix_1, ix_2, ix_3, Ws_appS, decide_eq_true_eq, Bool.not_eq_true', setAll, Bool.false_eq_true, if_false, if_true]
  split
  · refine (word k t).mono fun x S' => ?_
    rintro ⟨w, rfl, hw, t'⟩
    exact ⟨cap_ge (by show 3 ≤ 10000; decide), .word w, rfl, hw, t'⟩
  split
  · refine draw (k + 2) t (by decide) (by decide) fun n1 S1 hn1 t => ?_
    refine draw (k + 2) t (by decide) (by decide) fun n2 S2 hn2 t => ?_
    refine ⟨cap_ge (by show 3 ≤ 10000; decide), ?_⟩
    refine draw (k + 2) t (by decide) (by decide) fun q S3 hq t => ?_
    simp only [E_some, E_someP, O_some, Ws_some, O_ite, E_bind1, E_bind2, E_lift1, E_lift2, E_lift2b, E_varE, E_varB, E_truthOf, E_asTest, E_itemsR, E_rngR, E_andR, E_andT, E_orT, E_notT, E_condR, E_callR, E_argsR, E_dispR, E_idxT, E_cutR, E_optI, Ws_seq, Ws_set, Ws_setO, Ws_setT, Ws_setI, Ws_aug, Ws_app, Ws_ex, Ws_ret, Ws_if, Ws_for, Ws_frz, execs, exec, sem, sems, Sm.of, Sm.none, fzs, T.fz, List.map_cons, List.map_nil, List.getElem?_cons_succ, List.getElem?_cons_zero, List.set_cons_succ, List.set_cons_zero, Option.some.injEq, T.v.injEq, T.own.injEq, D.int.injEq, D.bl.injEq, D.tup.injEq, D.str.injEq, exists_eq_left', exists_eq_left, Pg.cf, O_add_int, O_sub_int, O_mul_int, O_fdiv_int, O_mod_int, O_lt_int, O_le_int, O_gt_int, O_ge_int, O_eq_int, O_eq_str, O_ne_str, O_int_int, O_abs_int, O_len_str, O_len_own, O_len_lst, O_max2, O_get_ref, O_get_own, O_get_str, O_get_tup, O_get_lst, O_add_str, O_str_int, O_tuple_own, O_aug_add, O_mul_str, O_pow1018, O_in_ch, O_sl_str, O_truth_own, O_truth_bl, O_itemsOf_tup, O_itemsOf_scr, O_list_scr, O_put1, Ws_setTape, ix_0, ix_1, ix_2, ix_3, Ws_appS, decide_eq_true_eq, Bool.not_eq_true', setAll, Bool.false_eq_true, if_false, if_true]
    refine pickP (fun d => ∃ n : Nat, d = .int n ∧ n ≤ 1000000) (by omega) hq (fun d hd => ?_) fun d hd => ?_
    · rcases List.mem_cons.mp hd with rfl | hd
      · exact ⟨n1, rfl, by omega⟩
      · rcases List.mem_cons.mp hd with rfl | hd
        · exact ⟨n2, rfl, by omega⟩
        · rcases List.mem_cons.mp hd with rfl | hd
          · exact ⟨1000000, rfl, Nat.le_refl _⟩
          · cases hd
    obtain ⟨n, rfl, hn⟩ := hd
    simp only [E_some, E_someP, O_some, Ws_some, O_ite, E_bind1, E_bind2, E_lift1, E_lift2, E_lift2b, E_varE, E_varB, E_truthOf, E_asTest, E_itemsR, E_rngR, E_andR, E_andT, E_orT, E_notT, E_condR, E_callR, E_argsR, E_dispR, E_idxT, E_cutR, E_optI, Ws_seq, Ws_set, Ws_setO, Ws_setT, Ws_setI, Ws_aug, Ws_app, Ws_ex, Ws_ret, Ws_if, Ws_for, Ws_frz, execs, exec, sem, sems, Sm.of, Sm.none, fzs, T.fz, List.map_cons, List.map_nil, List.getElem?_cons_succ, List.getElem?_cons_zero, List.set_cons_succ, List.set_cons_zero, Option.some.injEq, T.v.injEq, T.own.injEq, D.int.injEq, D.bl.injEq, D.tup.injEq, D.str.injEq, exists_eq_left', exists_eq_left, Pg.cf, O_add_int, O_sub_int, O_mul_int, O_fdiv_int, O_mod_int, O_lt_int, O_le_int, O_gt_int, O_ge_int, O_eq_int, O_eq_str, O_ne_str, O_int_int, O_abs_int, O_len_str, O_len_own, O_len_lst, O_max2, O_get_ref, O_get_own, O_get_str, O_get_tup, O_get_lst, O_add_str, O_str_int, O_tuple_own, O_aug_add, O_mul_str, O_pow1018, O_in_ch, O_sl_str, O_truth_own, O_truth_bl, O_itemsOf_tup, O_itemsOf_scr, O_list_scr, O_put1, Ws_setTape, ix_0, ix_1, ix_2, ix_3, Ws_appS, decide_eq_true_eq, Bool.not_eq_true', setAll, Bool.false_eq_true, if_false, if_true]
    have hl := decI_len (n := n) (by omega)
    have hc : (decI (n : Int)).length ≤ cap := cap_ge (by omega)
    refine ⟨?_, hc, ?_⟩
    · rw [Int.natAbs_natCast]
      have : n.log2 ≤ n := Nat.log2_le_self n
      have h2 : n.log2 < 20 := by
        by_cases z : n = 0
        · subst z; decide
        · exact (Nat.log2_lt z).mpr (by omega)
      omega
    split
    · rename_i hlt
      refine ⟨hc, ?_⟩
      refine draw (k + 2) t (by omega) (by omega) fun q S4 hq t => ?_
      simp only [E_some, E_someP, O_some, Ws_some, O_ite, E_bind1, E_bind2, E_lift1, E_lift2, E_lift2b, E_varE, E_varB, E_truthOf, E_asTest, E_itemsR, E_rngR, E_andR, E_andT, E_orT, E_notT, E_condR, E_callR, E_argsR, E_dispR, E_idxT, E_cutR, E_optI, Ws_seq, Ws_set, Ws_setO, Ws_setT, Ws_setI, Ws_aug, Ws_app, Ws_ex, Ws_ret, Ws_if, Ws_for, Ws_frz, execs, exec, sem, sems, Sm.of, Sm.none, fzs, T.fz, List.map_cons, List.map_nil, List.getElem?_cons_succ, List.getElem?_cons_zero, List.set_cons_succ, List.set_cons_zero, Option.some.injEq, T.v.injEq, T.own.injEq, D.int.injEq, D.bl.injEq, D.tup.injEq, D.str.injEq, exists_eq_left', exists_eq_left, Pg.cf, O_add_int, O_sub_int, O_mul_int, O_fdiv_int, O_mod_int, O_lt_int, O_le_int, O_gt_int, O_ge_int, O_eq_int, O_eq_str, O_ne_str, O_int_int, O_abs_int, O_len_str, O_len_own, O_len_lst, O_max2, O_get_ref, O_get_own, O_get_str, O_get_tup, O_get_lst, O_add_str, O_str_int, O_tuple_own, O_aug_add, O_mul_str, O_pow1018, O_in_ch, O_sl_str, O_truth_own, O_truth_bl, O_itemsOf_tup, O_itemsOf_scr, O_list_scr, O_put1, Ws_setTape, ix_0, ix_1, ix_2, ix_3, Ws_appS, decide_eq_true_eq, Bool.not_eq_true', setAll, Bool.false_eq_true, if_false, if_true]
      have hj : (q : Int).toNat + (decI (n : Int)).length ≤ 7 := by omega
      exact ⟨by omega, cap_ge (by rw [List.length_replicate]; omega), cap_ge (by show 3 ≤ 10000; decide), .num n (List.replicate (q : Int).toNat 48 ++ decI (n : Int)), rfl, decI_tok hn hj, t⟩
    · exact ⟨cap_ge (by show 3 ≤ 10000; decide), .num n (List.replicate 0 48 ++ decI (n : Int)), rfl, decI_tok hn (by omega), t⟩
  split
  · refine (text (k + 1) t).mono fun x S' => ?_
    rintro ⟨w, rfl, hw, t'⟩
    have hl := hw.2
    show O (if w.length + (w.length + 1) * 2 + 1 ≤ cap then some (T.v (.str ([39] ++ dbl 39 w))) else none) _
    rw [if_pos (cap_ge (by omega))]
    simp only [E_some, E_someP, O_some, Ws_some, O_ite, E_bind1, E_bind2, E_lift1, E_lift2, E_lift2b, E_varE, E_varB, E_truthOf, E_asTest, E_itemsR, E_rngR, E_andR, E_andT, E_orT, E_notT, E_condR, E_callR, E_argsR, E_dispR, E_idxT, E_cutR, E_optI, Ws_seq, Ws_set, Ws_setO, Ws_setT, Ws_setI, Ws_aug, Ws_app, Ws_ex, Ws_ret, Ws_if, Ws_for, Ws_frz, execs, exec, sem, sems, Sm.of, Sm.none, fzs, T.fz, List.map_cons, List.map_nil, List.getElem?_cons_succ, List.getElem?_cons_zero, List.set_cons_succ, List.set_cons_zero, Option.some.injEq, T.v.injEq, T.own.injEq, D.int.injEq, D.bl.injEq, D.tup.injEq, D.str.injEq, exists_eq_left', exists_eq_left, Pg.cf, O_add_int, O_sub_int, O_mul_int, O_fdiv_int, O_mod_int, O_lt_int, O_le_int, O_gt_int, O_ge_int, O_eq_int, O_eq_str, O_ne_str, O_int_int, O_abs_int, O_len_str, O_len_own, O_len_lst, O_max2, O_get_ref, O_get_own, O_get_str, O_get_tup, O_get_lst, O_add_str, O_str_int, O_tuple_own, O_aug_add, O_mul_str, O_pow1018, O_in_ch, O_sl_str, O_truth_own, O_truth_bl, O_itemsOf_tup, O_itemsOf_scr, O_list_scr, O_put1, Ws_setTape, ix_0, ix_1, ix_2, ix_3, Ws_appS, decide_eq_true_eq, Bool.not_eq_true', setAll, Bool.false_eq_true, if_false, if_true]
    have := dbl_len w
    exact ⟨cap_ge (by simp; omega), cap_ge (by show 3 ≤ 10000; decide), .str w, by simp [Tk.d, Tk.kind, Tk.val, Tk.txt], hw, t'⟩
  · refine ⟨cap_ge (by decide), ?_⟩
    refine draw (k + 2) t (by decide) (by decide) fun q S3 hq t => ?_
    simp only [E_some, E_someP, O_some, Ws_some, O_ite, E_bind1, E_bind2, E_lift1, E_lift2, E_lift2b, E_varE, E_varB, E_truthOf, E_asTest, E_itemsR, E_rngR, E_andR, E_andT, E_orT, E_notT, E_condR, E_callR, E_argsR, E_dispR, E_idxT, E_cutR, E_optI, Ws_seq, Ws_set, Ws_setO, Ws_setT, Ws_setI, Ws_aug, Ws_app, Ws_ex, Ws_ret, Ws_if, Ws_for, Ws_frz, execs, exec, sem, sems, Sm.of, Sm.none, fzs, T.fz, List.map_cons, List.map_nil, List.getElem?_cons_succ, List.getElem?_cons_zero, List.set_cons_succ, List.set_cons_zero, Option.some.injEq, T.v.injEq, T.own.injEq, D.int.injEq, D.bl.injEq, D.tup.injEq, D.str.injEq, exists_eq_left', exists_eq_left, Pg.cf, O_add_int, O_sub_int, O_mul_int, O_fdiv_int, O_mod_int, O_lt_int, O_le_int, O_gt_int, O_ge_int, O_eq_int, O_eq_str, O_ne_str, O_int_int, O_abs_int, O_len_str, O_len_own, O_len_lst, O_max2, O_get_ref, O_get_own, O_get_str, O_get_tup, O_get_lst, O_add_str, O_str_int, O_tuple_own, O_aug_add, O_mul_str, O_pow1018, O_in_ch, O_sl_str, O_truth_own, O_truth_bl, O_itemsOf_tup, O_itemsOf_scr, O_list_scr, O_put1, Ws_setTape, ix_0, ix_1, ix_2, ix_3, Ws_appS, decide_eq_true_eq, Bool.not_eq_true', setAll, Bool.false_eq_true, if_false, if_true]
    refine pickP (fun d => ∃ y, d = .str y ∧ y ∈ SYMS) (by omega) hq (fun d hd => ?_) fun d hd => ?_
    · have := (by decide : ([D.str [33, 61], D.str [60, 61], D.str [62, 61], D.str [40], D.str [41], D.str [44], D.str [59], D.str [124], D.str [61], D.str [60], D.str [62], D.str [43], D.str [45], D.str [58]]).all (strP fun y => decide (y ∈ SYMS)) = true)
      obtain ⟨y, rfl, hy⟩ := strP_of (all_of this d hd)
      exact ⟨y, rfl, of_decide_eq_true hy⟩
    obtain ⟨y, rfl, hy⟩ := hd
    exact ⟨cap_ge (by show 3 ≤ 10000; decide), .sym y, rfl, hy, t⟩
end Law
namespace Law
open M3
theorem gl0 : pg.glob 0 = .str [97, 98, 99, 100, 101, 102, 103, 104, 105, 106, 107, 108, 109, 110, 111, 112, 113, 114, 115, 116, 117, 118, 119, 120, 121, 122] := rfl
theorem gl1 : pg.glob 1 = .str [48, 49, 50, 51, 52, 53, 54, 55, 56, 57] := rfl
theorem gl2 : pg.glob 2 = .str [97, 98, 99, 100, 101, 102, 103, 104, 105, 106, 107, 108, 109, 110, 111, 112, 113, 114, 115, 116, 117, 118, 119, 120, 121, 122, 48, 49, 50, 51, 52, 53, 54, 55, 56, 57, 95] := rfl
theorem gl3 : pg.glob 3 = .tup (SYMS.map .str) := rfl
theorem gl4 : pg.glob 4 = .int 16 := rfl
theorem gl5 : pg.glob 5 = .int 7 := rfl
theorem gl6 : pg.glob 6 = .int 1000000 := rfl
theorem gl7 : pg.glob 7 = .int 20 := rfl
abbrev LETS : List Nat := [97, 98, 99, 100, 101, 102, 103, 104, 105, 106, 107, 108, 109, 110, 111, 112, 113, 114, 115, 116, 117, 118, 119, 120, 121, 122]
abbrev DIGS : List Nat := [48, 49, 50, 51, 52, 53, 54, 55, 56, 57]
abbrev WCHS : List Nat := [97, 98, 99, 100, 101, 102, 103, 104, 105, 106, 107, 108, 109, 110, 111, 112, 113, 114, 115, 116, 117, 118, 119, 120, 121, 122, 48, 49, 50, 51, 52, 53, 54, 55, 56, 57, 95]
theorem mem_lets {c : Nat} : c ∈ LETS ↔ LC c = true := by
  unfold LC
  simp
  omega
theorem mem_digs {c : Nat} : c ∈ DIGS ↔ DC c = true := by
  unfold DC
  simp
  omega
theorem mem_wchs {c : Nat} : c ∈ WCHS ↔ WC c = true := by
  unfold WC LC DC
  simp
  omega
theorem at_mid {α : Type} {pre run rest : List α} {i : Nat} (h : i < run.length) : (pre ++ (run ++ rest))[pre.length + i]? = some run[i] := by
  rw [List.getElem?_append_right (by omega), Nat.add_sub_cancel_left, List.getElem?_append_left h, List.getElem?_eq_getElem h]
theorem at_pre {α : Type} {pre rest : List α} {c : α} : (pre ++ c :: rest)[pre.length]? = some c := by
  rw [List.getElem?_append_right (Nat.le_refl _), Nat.sub_self]
  rfl
theorem cut_mid {α : Type} {pre run rest : List α} : cut (pre ++ (run ++ rest)) (some ((pre.length : Nat) : Int)) (some ((pre.length + run.length : Nat) : Int)) = run := by
  unfold cut
  rw [show sIx (pre ++ (run ++ rest)).length 0 (some ((pre.length : Nat) : Int)) = pre.length by
    rw [show sIx _ 0 _ = min pre.length _ from HT.sIx_nat _ 0 _]
    simp]
  rw [show sIx (pre ++ (run ++ rest)).length (pre ++ (run ++ rest)).length (some ((pre.length + run.length : Nat) : Int)) = pre.length + run.length by
    rw [show sIx _ _ _ = min (pre.length + run.length) _ from HT.sIx_nat _ _ _]
    simp]
  rw [List.drop_left, Nat.add_sub_cancel_left, List.take_left]
/-- the run of signs -/
theorem run_end (k : Nat) {pre run rest cs : List Nat} {S : Sto} (hc : (pre ++ (run ++ rest)).length ≤ 10000) (h1 : ∀ c ∈ run, c ∈ cs) (h2 : ∀ c r, rest = c :: r → c ∉ cs) :
    E (call pg (k + 1) 0 [.str (pre ++ (run ++ rest)), .int (pre.length : Nat), .str cs] S) fun x S' => x = .v (.int ((pre.length + run.length : Nat) : Int)) ∧ S' = S := by
  refine E_call2 (fd := c_run_end) rfl rfl (σ := [some (.v (.str (pre ++ (run ++ rest)))), some (.v (.int (pre.length : Nat))), some (.v (.str cs)), none]) rfl ?_
  simp only [c_run_end, E_some, E_someP, O_some, Ws_some, O_ite, E_bind1, E_bind2, E_lift1, E_lift2, E_lift2b, E_varE, E_varB, E_truthOf, E_asTest, E_itemsR, E_rngR, E_andR, E_andT, E_orT, E_notT, E_condR, E_callR, E_argsR, E_dispR, E_idxT, E_cutR, E_optI, Ws_seq, Ws_set, Ws_setO, Ws_setT, Ws_setI, Ws_aug, Ws_app, Ws_ex, Ws_ret, Ws_if, Ws_for, Ws_frz, execs, exec, sem, sems, Sm.of, Sm.none, fzs, T.fz, List.map_cons, List.map_nil, List.getElem?_cons_succ, List.getElem?_cons_zero, List.set_cons_succ, List.set_cons_zero, Option.some.injEq, T.v.injEq, T.own.injEq, D.int.injEq, D.bl.injEq, D.tup.injEq, D.str.injEq, exists_eq_left', exists_eq_left, Pg.cf, O_add_int, O_sub_int, O_mul_int, O_fdiv_int, O_mod_int, O_lt_int, O_le_int, O_gt_int, O_ge_int, O_eq_int, O_eq_str, O_ne_str, O_int_int, O_abs_int, O_len_str, O_len_own, O_len_lst, O_max2, O_get_ref, O_get_own, O_get_str, O_get_tup, O_get_lst, O_add_str, O_str_int, O_tuple_own, O_aug_add, O_mul_str, O_pow1018, O_in_ch, O_sl_str, O_truth_own, O_truth_bl, O_itemsOf_tup, O_itemsOf_scr, O_list_scr, O_put1, Ws_setTape, ix_0, ix_1, ix_2, ix_3, Ws_appS, decide_eq_true_eq, Bool.not_eq_true', setAll, Bool.false_eq_true, if_false, if_true]
  have hl : (pre ++ (run ++ rest)).length = pre.length + (run.length + rest.length) := by rw [List.length_append, List.length_append]
  refine ws_while (fun m σ S' => ∃ i : Nat, σ = [some (.v (.str (pre ++ (run ++ rest)))), some (.v (.int (pre.length : Nat))), some (.v (.str cs)), some (.v (.int ((pre.length + i : Nat) : Int)))] ∧ S' = S ∧ i + m = run.length)
    (fun m σ S' j => ?_) _ run.length ⟨0, rfl, rfl, by omega⟩ (by show run.length < 100000; omega)
  obtain ⟨i, rfl, rfl, hi⟩ := j
  simp only [E_some, E_someP, O_some, Ws_some, O_ite, E_bind1, E_bind2, E_lift1, E_lift2, E_lift2b, E_varE, E_varB, E_truthOf, E_asTest, E_itemsR, E_rngR, E_andR, E_andT, E_orT, E_notT, E_condR, E_callR, E_argsR, E_dispR, E_idxT, E_cutR, E_optI, Ws_seq, Ws_set, Ws_setO, Ws_setT, Ws_setI, Ws_aug, Ws_app, Ws_ex, Ws_ret, Ws_if, Ws_for, Ws_frz, execs, exec, sem, sems, Sm.of, Sm.none, fzs, T.fz, List.map_cons, List.map_nil, List.getElem?_cons_succ, List.getElem?_cons_zero, List.set_cons_succ, List.set_cons_zero, Option.some.injEq, T.v.injEq, T.own.injEq, D.int.injEq, D.bl.injEq, D.tup.injEq, D.str.injEq, exists_eq_left', exists_eq_left, Pg.cf, O_add_int, O_sub_int, O_mul_int, O_fdiv_int, O_mod_int, O_lt_int, O_le_int, O_gt_int, O_ge_int, O_eq_int, O_eq_str, O_ne_str, O_int_int, O_abs_int, O_len_str, O_len_own, O_len_lst, O_max2, O_get_ref, O_get_own, O_get_str, O_get_tup, O_get_lst, O_add_str, O_str_int, O_tuple_own, O_aug_add, O_mul_str, O_pow1018, O_in_ch, O_sl_str, O_truth_own, O_truth_bl, O_itemsOf_tup, O_itemsOf_scr, O_list_scr, O_put1, Ws_setTape, ix_0, ix_1, ix_2, ix_3, Ws_appS, decide_eq_true_eq, Bool.not_eq_true', setAll, Bool.false_eq_true, if_false, if_true]
  refine ⟨cap_ge hc, ?_⟩
  by_cases hlt : pre.length + i < (pre ++ (run ++ rest)).length
  · rw [if_pos (by omega)]
    refine ⟨cap_ge hc, ?_⟩
    rw [ix_nat hlt]
    by_cases hr : i < run.length
    · rw [at_mid hr]
      simp only [E_some, E_someP, O_some, Ws_some, O_ite, E_bind1, E_bind2, E_lift1, E_lift2, E_lift2b, E_varE, E_varB, E_truthOf, E_asTest, E_itemsR, E_rngR, E_andR, E_andT, E_orT, E_notT, E_condR, E_callR, E_argsR, E_dispR, E_idxT, E_cutR, E_optI, Ws_seq, Ws_set, Ws_setO, Ws_setT, Ws_setI, Ws_aug, Ws_app, Ws_ex, Ws_ret, Ws_if, Ws_for, Ws_frz, execs, exec, sem, sems, Sm.of, Sm.none, fzs, T.fz, List.map_cons, List.map_nil, List.getElem?_cons_succ, List.getElem?_cons_zero, List.set_cons_succ, List.set_cons_zero, Option.some.injEq, T.v.injEq, T.own.injEq, D.int.injEq, D.bl.injEq, D.tup.injEq, D.str.injEq, exists_eq_left', exists_eq_left, Pg.cf, O_add_int, O_sub_int, O_mul_int, O_fdiv_int, O_mod_int, O_lt_int, O_le_int, O_gt_int, O_ge_int, O_eq_int, O_eq_str, O_ne_str, O_int_int, O_abs_int, O_len_str, O_len_own, O_len_lst, O_max2, O_get_ref, O_get_own, O_get_str, O_get_tup, O_get_lst, O_add_str, O_str_int, O_tuple_own, O_aug_add, O_mul_str, O_pow1018, O_in_ch, O_sl_str, O_truth_own, O_truth_bl, O_itemsOf_tup, O_itemsOf_scr, O_list_scr, O_put1, Ws_setTape, ix_0, ix_1, ix_2, ix_3, Ws_appS, decide_eq_true_eq, Bool.not_eq_true', setAll, Bool.false_eq_true, if_false, if_true]
      rw [if_pos (h1 _ (List.getElem_mem hr))]
      exact ⟨m - 1, by omega, i + 1, rfl, trivial, by omega⟩
    · have hi : i = run.length := by omega
      subst hi
      cases rest with
      | nil => simp at hlt
      | cons c r =>
        have e : (pre ++ (run ++ c :: r))[pre.length + run.length]? = some c := by
          rw [List.getElem?_append_right (by omega), Nat.add_sub_cancel_left]
          exact at_pre
        rw [e]
        simp only [E_some, E_someP, O_some, Ws_some, O_ite, E_bind1, E_bind2, E_lift1, E_lift2, E_lift2b, E_varE, E_varB, E_truthOf, E_asTest, E_itemsR, E_rngR, E_andR, E_andT, E_orT, E_notT, E_condR, E_callR, E_argsR, E_dispR, E_idxT, E_cutR, E_optI, Ws_seq, Ws_set, Ws_setO, Ws_setT, Ws_setI, Ws_aug, Ws_app, Ws_ex, Ws_ret, Ws_if, Ws_for, Ws_frz, execs, exec, sem, sems, Sm.of, Sm.none, fzs, T.fz, List.map_cons, List.map_nil, List.getElem?_cons_succ, List.getElem?_cons_zero, List.set_cons_succ, List.set_cons_zero, Option.some.injEq, T.v.injEq, T.own.injEq, D.int.injEq, D.bl.injEq, D.tup.injEq, D.str.injEq, exists_eq_left', exists_eq_left, Pg.cf, O_add_int, O_sub_int, O_mul_int, O_fdiv_int, O_mod_int, O_lt_int, O_le_int, O_gt_int, O_ge_int, O_eq_int, O_eq_str, O_ne_str, O_int_int, O_abs_int, O_len_str, O_len_own, O_len_lst, O_max2, O_get_ref, O_get_own, O_get_str, O_get_tup, O_get_lst, O_add_str, O_str_int, O_tuple_own, O_aug_add, O_mul_str, O_pow1018, O_in_ch, O_sl_str, O_truth_own, O_truth_bl, O_itemsOf_tup, O_itemsOf_scr, O_list_scr, O_put1, Ws_setTape, ix_0, ix_1, ix_2, ix_3, Ws_appS, decide_eq_true_eq, Bool.not_eq_true', setAll, Bool.false_eq_true, if_false, if_true]
        rw [if_neg (h2 c r rfl)]
        try simp only [E_some, E_someP, O_some, Ws_some, O_ite, E_bind1, E_bind2, E_lift1, E_lift2, E_lift2b, E_varE, E_varB, E_truthOf, E_asTest, E_itemsR, E_rngR, E_andR, E_andT, E_orT, E_notT, E_condR, E_callR, E_argsR, E_dispR, E_idxT, E_cutR, E_optI, Ws_seq, Ws_set, Ws_setO, Ws_setT, Ws_setI, Ws_aug, Ws_app, Ws_ex, Ws_ret, Ws_if, Ws_for, Ws_frz, execs, exec, sem, sems, Sm.of, Sm.none, fzs, T.fz, List.map_cons, List.map_nil, List.getElem?_cons_succ, List.getElem?_cons_zero, List.set_cons_succ, List.set_cons_zero, Option.some.injEq, T.v.injEq, T.own.injEq, D.int.injEq, D.bl.injEq, D.tup.injEq, D.str.injEq, exists_eq_left', exists_eq_left, Pg.cf, O_add_int, O_sub_int, O_mul_int, O_fdiv_int, O_mod_int, O_lt_int, O_le_int, O_gt_int, O_ge_int, O_eq_int, O_eq_str, O_ne_str, O_int_int, O_abs_int, O_len_str, O_len_own, O_len_lst, O_max2, O_get_ref, O_get_own, O_get_str, O_get_tup, O_get_lst, O_add_str, O_str_int, O_tuple_own, O_aug_add, O_mul_str, O_pow1018, O_in_ch, O_sl_str, O_truth_own, O_truth_bl, O_itemsOf_tup, O_itemsOf_scr, O_list_scr, O_put1, Ws_setTape, ix_0, ix_1, ix_2, ix_3, Ws_appS, decide_eq_true_eq, Bool.not_eq_true', setAll, Bool.false_eq_true, if_false, if_true]
        exact ⟨trivial, trivial⟩
  · rw [if_neg (by omega)]
    have hi : i = run.length := by omega
    subst hi
    simp only [E_some, E_someP, O_some, Ws_some, O_ite, E_bind1, E_bind2, E_lift1, E_lift2, E_lift2b, E_varE, E_varB, E_truthOf, E_asTest, E_itemsR, E_rngR, E_andR, E_andT, E_orT, E_notT, E_condR, E_callR, E_argsR, E_dispR, E_idxT, E_cutR, E_optI, Ws_seq, Ws_set, Ws_setO, Ws_setT, Ws_setI, Ws_aug, Ws_app, Ws_ex, Ws_ret, Ws_if, Ws_for, Ws_frz, execs, exec, sem, sems, Sm.of, Sm.none, fzs, T.fz, List.map_cons, List.map_nil, List.getElem?_cons_succ, List.getElem?_cons_zero, List.set_cons_succ, List.set_cons_zero, Option.some.injEq, T.v.injEq, T.own.injEq, D.int.injEq, D.bl.injEq, D.tup.injEq, D.str.injEq, exists_eq_left', exists_eq_left, Pg.cf, O_add_int, O_sub_int, O_mul_int, O_fdiv_int, O_mod_int, O_lt_int, O_le_int, O_gt_int, O_ge_int, O_eq_int, O_eq_str, O_ne_str, O_int_int, O_abs_int, O_len_str, O_len_own, O_len_lst, O_max2, O_get_ref, O_get_own, O_get_str, O_get_tup, O_get_lst, O_add_str, O_str_int, O_tuple_own, O_aug_add, O_mul_str, O_pow1018, O_in_ch, O_sl_str, O_truth_own, O_truth_bl, O_itemsOf_tup, O_itemsOf_scr, O_list_scr, O_put1, Ws_setTape, ix_0, ix_1, ix_2, ix_3, Ws_appS, decide_eq_true_eq, Bool.not_eq_true', setAll, Bool.false_eq_true, if_false, if_true]
    exact ⟨trivial, trivial⟩
/-- what a reader of one token gives -/
abbrev Gives (o : Option (T × Sto)) (t : Tk) (p : Nat) (S : Sto) : Prop := E o fun x S' => x = .v (.tup [.tup [.str t.kind, t.val, .int (p : Int)], .int ((p + t.txt.length : Nat) : Int)]) ∧ S' = S
theorem word_from (k : Nat) {pre w rest : List Nat} {S : Sto} (hc : (pre ++ (w ++ rest)).length ≤ 10000) (h : (Tk.word w).ok) (h2 : ∀ c r, rest = c :: r → WC c = false) :
    Gives (call pg (k + 2) 1 [.str (pre ++ (w ++ rest)), .int (pre.length : Nat)] S) (.word w) pre.length S := by
  refine E_call2 (fd := c_word_from) rfl rfl (σ := [some (.v (.str (pre ++ (w ++ rest)))), some (.v (.int (pre.length : Nat))), none]) rfl ?_
  simp only [c_word_from, E_some, E_someP, O_some, Ws_some, O_ite, E_bind1, E_bind2, E_lift1, E_lift2, E_lift2b, E_varE, E_varB, E_truthOf, E_asTest, E_itemsR, E_rngR, E_andR, E_andT, E_orT, E_notT, E_condR, E_callR, E_argsR, E_dispR, E_idxT, E_cutR, E_optI, Ws_seq, Ws_set, Ws_setO, Ws_setT, Ws_setI, Ws_aug, Ws_app, Ws_ex, Ws_ret, Ws_if, Ws_for, Ws_frz, execs, exec, sem, sems, Sm.of, Sm.none, fzs, T.fz, List.map_cons, List.map_nil, List.getElem?_cons_succ, List.getElem?_cons_zero, List.set_cons_succ, List.set_cons_zero, Option.some.injEq, T.v.injEq, T.own.injEq, D.int.injEq, D.bl.injEq, D.tup.injEq, D.str.injEq, exists_eq_left', exists_eq_left, Pg.cf, O_add_int, O_sub_int, O_mul_int, O_fdiv_int, O_mod_int, O_lt_int, O_le_int, O_gt_int, O_ge_int, O_eq_int, O_eq_str, O_ne_str, O_int_int, O_abs_int, O_len_str, O_len_own, O_len_lst, O_max2, O_get_ref, O_get_own, O_get_str, O_get_tup, O_get_lst, O_add_str, O_str_int, O_tuple_own, O_aug_add, O_mul_str, O_pow1018, O_in_ch, O_sl_str, O_truth_own, O_truth_bl, O_itemsOf_tup, O_itemsOf_scr, O_list_scr, O_put1, Ws_setTape, ix_0, ix_1, ix_2, ix_3, Ws_appS, decide_eq_true_eq, Bool.not_eq_true', setAll, Bool.false_eq_true, if_false, if_true, gl2, gl4]
  have hw : ∀ c ∈ w, c ∈ WCHS := fun c hc => by
    obtain ⟨⟨d, r, rfl, h3, h4⟩, _⟩ := h
    rw [mem_wchs]
    rcases List.mem_cons.mp hc with rfl | hc
    · unfold WC; rw [h3]; rfl
    · exact List.all_eq_true.mp h4 c hc
  refine (run_end k hc hw fun c r e => ?_).mono fun x S' => ?_
  · rw [mem_wchs, h2 c r e]
    exact Bool.false_ne_true
  rintro ⟨rfl, rfl⟩
  simp only [E_some, E_someP, O_some, Ws_some, O_ite, E_bind1, E_bind2, E_lift1, E_lift2, E_lift2b, E_varE, E_varB, E_truthOf, E_asTest, E_itemsR, E_rngR, E_andR, E_andT, E_orT, E_notT, E_condR, E_callR, E_argsR, E_dispR, E_idxT, E_cutR, E_optI, Ws_seq, Ws_set, Ws_setO, Ws_setT, Ws_setI, Ws_aug, Ws_app, Ws_ex, Ws_ret, Ws_if, Ws_for, Ws_frz, execs, exec, sem, sems, Sm.of, Sm.none, fzs, T.fz, List.map_cons, List.map_nil, List.getElem?_cons_succ, List.getElem?_cons_zero, List.set_cons_succ, List.set_cons_zero, Option.some.injEq, T.v.injEq, T.own.injEq, D.int.injEq, D.bl.injEq, D.tup.injEq, D.str.injEq, exists_eq_left', exists_eq_left, Pg.cf, O_add_int, O_sub_int, O_mul_int, O_fdiv_int, O_mod_int, O_lt_int, O_le_int, O_gt_int, O_ge_int, O_eq_int, O_eq_str, O_ne_str, O_int_int, O_abs_int, O_len_str, O_len_own, O_len_lst, O_max2, O_get_ref, O_get_own, O_get_str, O_get_tup, O_get_lst, O_add_str, O_str_int, O_tuple_own, O_aug_add, O_mul_str, O_pow1018, O_in_ch, O_sl_str, O_truth_own, O_truth_bl, O_itemsOf_tup, O_itemsOf_scr, O_list_scr, O_put1, Ws_setTape, ix_0, ix_1, ix_2, ix_3, Ws_appS, decide_eq_true_eq, Bool.not_eq_true', setAll, Bool.false_eq_true, if_false, if_true]
  have hl := h.2
  rw [if_neg (by omega)]
  try simp only [E_some, E_someP, O_some, Ws_some, O_ite, E_bind1, E_bind2, E_lift1, E_lift2, E_lift2b, E_varE, E_varB, E_truthOf, E_asTest, E_itemsR, E_rngR, E_andR, E_andT, E_orT, E_notT, E_condR, E_callR, E_argsR, E_dispR, E_idxT, E_cutR, E_optI, Ws_seq, Ws_set, Ws_setO, Ws_setT, Ws_setI, Ws_aug, Ws_app, Ws_ex, Ws_ret, Ws_if, Ws_for, Ws_frz, execs, exec, sem, sems, Sm.of, Sm.none, fzs, T.fz, List.map_cons, List.map_nil, List.getElem?_cons_succ, List.getElem?_cons_zero, List.set_cons_succ, List.set_cons_zero, Option.some.injEq, T.v.injEq, T.own.injEq, D.int.injEq, D.bl.injEq, D.tup.injEq, D.str.injEq, exists_eq_left', exists_eq_left, Pg.cf, O_add_int, O_sub_int, O_mul_int, O_fdiv_int, O_mod_int, O_lt_int, O_le_int, O_gt_int, O_ge_int, O_eq_int, O_eq_str, O_ne_str, O_int_int, O_abs_int, O_len_str, O_len_own, O_len_lst, O_max2, O_get_ref, O_get_own, O_get_str, O_get_tup, O_get_lst, O_add_str, O_str_int, O_tuple_own, O_aug_add, O_mul_str, O_pow1018, O_in_ch, O_sl_str, O_truth_own, O_truth_bl, O_itemsOf_tup, O_itemsOf_scr, O_list_scr, O_put1, Ws_setTape, ix_0, ix_1, ix_2, ix_3, Ws_appS, decide_eq_true_eq, Bool.not_eq_true', setAll, Bool.false_eq_true, if_false, if_true]
  refine ⟨cap_ge hc, ?_⟩
  rw [cut_mid]
  exact ⟨cap_ge (by show 3 ≤ 10000; decide), cap_ge (by show 2 ≤ 10000; decide), rfl, trivial⟩
theorem O_int_str {t : List Nat} {n : Nat} {Q : T → Prop} (h : (Tk.num n t).ok) : O (P1.run .int (.v (.str t))) Q ↔ Q (.v (.int (n : Int))) := by
  obtain ⟨_, h1, h2, h3, h4⟩ := h
  show O (if t.length ≤ 640 then (PySem.intText? ⟨t.toArray⟩).map fun n => T.v (.int n) else none) Q ↔ _
  rw [if_pos (by omega)]
  have e : PySem.intText? ⟨t.toArray⟩ = some ((PySem.NumText.digitsVal t : Nat) : Int) := by
    refine PySem.intText_digits (x := ⟨t.toArray⟩) (fun c hc => ?_) h1 (by show t.toArray.size ≤ _; rw [List.size_toArray]; omega)
    have := List.all_eq_true.mp h2 c hc
    unfold DC at this
    rw [Bool.and_eq_true, decide_eq_true_eq, decide_eq_true_eq] at this
    exact this
  rw [e, h4]
  exact O_some
theorem number_from (k : Nat) {pre t rest : List Nat} {n : Nat} {S : Sto} (hc : (pre ++ (t ++ rest)).length ≤ 10000) (h : (Tk.num n t).ok) (h2 : ∀ c r, rest = c :: r → DC c = false) :
    Gives (call pg (k + 2) 2 [.str (pre ++ (t ++ rest)), .int (pre.length : Nat)] S) (.num n t) pre.length S := by
  refine E_call2 (fd := c_number_from) rfl rfl (σ := [some (.v (.str (pre ++ (t ++ rest)))), some (.v (.int (pre.length : Nat))), none, none]) rfl ?_
  simp only [c_number_from, E_some, E_someP, O_some, Ws_some, O_ite, E_bind1, E_bind2, E_lift1, E_lift2, E_lift2b, E_varE, E_varB, E_truthOf, E_asTest, E_itemsR, E_rngR, E_andR, E_andT, E_orT, E_notT, E_condR, E_callR, E_argsR, E_dispR, E_idxT, E_cutR, E_optI, Ws_seq, Ws_set, Ws_setO, Ws_setT, Ws_setI, Ws_aug, Ws_app, Ws_ex, Ws_ret, Ws_if, Ws_for, Ws_frz, execs, exec, sem, sems, Sm.of, Sm.none, fzs, T.fz, List.map_cons, List.map_nil, List.getElem?_cons_succ, List.getElem?_cons_zero, List.set_cons_succ, List.set_cons_zero, Option.some.injEq, T.v.injEq, T.own.injEq, D.int.injEq, D.bl.injEq, D.tup.injEq, D.str.injEq, exists_eq_left', exists_eq_left, Pg.cf, O_add_int, O_sub_int, O_mul_int, O_fdiv_int, O_mod_int, O_lt_int, O_le_int, O_gt_int, O_ge_int, O_eq_int, O_eq_str, O_ne_str, O_int_int, O_abs_int, O_len_str, O_len_own, O_len_lst, O_max2, O_get_ref, O_get_own, O_get_str, O_get_tup, O_get_lst, O_add_str, O_str_int, O_tuple_own, O_aug_add, O_mul_str, O_pow1018, O_in_ch, O_sl_str, O_truth_own, O_truth_bl, O_itemsOf_tup, O_itemsOf_scr, O_list_scr, O_put1, Ws_setTape, ix_0, ix_1, ix_2, ix_3, Ws_appS, decide_eq_true_eq, Bool.not_eq_true', setAll, Bool.false_eq_true, if_false, if_true, gl1, gl5, gl6]
  have h' := h
  obtain ⟨g1, g2, g3, g4, g5⟩ := h'
  refine (run_end k hc (fun c hc => mem_digs.mpr (List.all_eq_true.mp g3 c hc)) fun c r e => ?_).mono fun x S' => ?_
  · rw [mem_digs, h2 c r e]
    exact Bool.false_ne_true
  rintro ⟨rfl, rfl⟩
  simp only [E_some, E_someP, O_some, Ws_some, O_ite, E_bind1, E_bind2, E_lift1, E_lift2, E_lift2b, E_varE, E_varB, E_truthOf, E_asTest, E_itemsR, E_rngR, E_andR, E_andT, E_orT, E_notT, E_condR, E_callR, E_argsR, E_dispR, E_idxT, E_cutR, E_optI, Ws_seq, Ws_set, Ws_setO, Ws_setT, Ws_setI, Ws_aug, Ws_app, Ws_ex, Ws_ret, Ws_if, Ws_for, Ws_frz, execs, exec, sem, sems, Sm.of, Sm.none, fzs, T.fz, List.map_cons, List.map_nil, List.getElem?_cons_succ, List.getElem?_cons_zero, List.set_cons_succ, List.set_cons_zero, Option.some.injEq, T.v.injEq, T.own.injEq, D.int.injEq, D.bl.injEq, D.tup.injEq, D.str.injEq, exists_eq_left', exists_eq_left, Pg.cf, O_add_int, O_sub_int, O_mul_int, O_fdiv_int, O_mod_int, O_lt_int, O_le_int, O_gt_int, O_ge_int, O_eq_int, O_eq_str, O_ne_str, O_int_int, O_abs_int, O_len_str, O_len_own, O_len_lst, O_max2, O_get_ref, O_get_own, O_get_str, O_get_tup, O_get_lst, O_add_str, O_str_int, O_tuple_own, O_aug_add, O_mul_str, O_pow1018, O_in_ch, O_sl_str, O_truth_own, O_truth_bl, O_itemsOf_tup, O_itemsOf_scr, O_list_scr, O_put1, Ws_setTape, ix_0, ix_1, ix_2, ix_3, Ws_appS, decide_eq_true_eq, Bool.not_eq_true', setAll, Bool.false_eq_true, if_false, if_true]
  rw [if_neg (by omega)]
  try simp only [E_some, E_someP, O_some, Ws_some, O_ite, E_bind1, E_bind2, E_lift1, E_lift2, E_lift2b, E_varE, E_varB, E_truthOf, E_asTest, E_itemsR, E_rngR, E_andR, E_andT, E_orT, E_notT, E_condR, E_callR, E_argsR, E_dispR, E_idxT, E_cutR, E_optI, Ws_seq, Ws_set, Ws_setO, Ws_setT, Ws_setI, Ws_aug, Ws_app, Ws_ex, Ws_ret, Ws_if, Ws_for, Ws_frz, execs, exec, sem, sems, Sm.of, Sm.none, fzs, T.fz, List.map_cons, List.map_nil, List.getElem?_cons_succ, List.getElem?_cons_zero, List.set_cons_succ, List.set_cons_zero, Option.some.injEq, T.v.injEq, T.own.injEq, D.int.injEq, D.bl.injEq, D.tup.injEq, D.str.injEq, exists_eq_left', exists_eq_left, Pg.cf, O_add_int, O_sub_int, O_mul_int, O_fdiv_int, O_mod_int, O_lt_int, O_le_int, O_gt_int, O_ge_int, O_eq_int, O_eq_str, O_ne_str, O_int_int, O_abs_int, O_len_str, O_len_own, O_len_lst, O_max2, O_get_ref, O_get_own, O_get_str, O_get_tup, O_get_lst, O_add_str, O_str_int, O_tuple_own, O_aug_add, O_mul_str, O_pow1018, O_in_ch, O_sl_str, O_truth_own, O_truth_bl, O_itemsOf_tup, O_itemsOf_scr, O_list_scr, O_put1, Ws_setTape, ix_0, ix_1, ix_2, ix_3, Ws_appS, decide_eq_true_eq, Bool.not_eq_true', setAll, Bool.false_eq_true, if_false, if_true]
  refine ⟨cap_ge hc, ?_⟩
  rw [cut_mid, O_int_str h]
  simp only [E_some, E_someP, O_some, Ws_some, O_ite, E_bind1, E_bind2, E_lift1, E_lift2, E_lift2b, E_varE, E_varB, E_truthOf, E_asTest, E_itemsR, E_rngR, E_andR, E_andT, E_orT, E_notT, E_condR, E_callR, E_argsR, E_dispR, E_idxT, E_cutR, E_optI, Ws_seq, Ws_set, Ws_setO, Ws_setT, Ws_setI, Ws_aug, Ws_app, Ws_ex, Ws_ret, Ws_if, Ws_for, Ws_frz, execs, exec, sem, sems, Sm.of, Sm.none, fzs, T.fz, List.map_cons, List.map_nil, List.getElem?_cons_succ, List.getElem?_cons_zero, List.set_cons_succ, List.set_cons_zero, Option.some.injEq, T.v.injEq, T.own.injEq, D.int.injEq, D.bl.injEq, D.tup.injEq, D.str.injEq, exists_eq_left', exists_eq_left, Pg.cf, O_add_int, O_sub_int, O_mul_int, O_fdiv_int, O_mod_int, O_lt_int, O_le_int, O_gt_int, O_ge_int, O_eq_int, O_eq_str, O_ne_str, O_int_int, O_abs_int, O_len_str, O_len_own, O_len_lst, O_max2, O_get_ref, O_get_own, O_get_str, O_get_tup, O_get_lst, O_add_str, O_str_int, O_tuple_own, O_aug_add, O_mul_str, O_pow1018, O_in_ch, O_sl_str, O_truth_own, O_truth_bl, O_itemsOf_tup, O_itemsOf_scr, O_list_scr, O_put1, Ws_setTape, ix_0, ix_1, ix_2, ix_3, Ws_appS, decide_eq_true_eq, Bool.not_eq_true', setAll, Bool.false_eq_true, if_false, if_true]
  rw [if_neg (by omega)]
  try simp only [E_some, E_someP, O_some, Ws_some, O_ite, E_bind1, E_bind2, E_lift1, E_lift2, E_lift2b, E_varE, E_varB, E_truthOf, E_asTest, E_itemsR, E_rngR, E_andR, E_andT, E_orT, E_notT, E_condR, E_callR, E_argsR, E_dispR, E_idxT, E_cutR, E_optI, Ws_seq, Ws_set, Ws_setO, Ws_setT, Ws_setI, Ws_aug, Ws_app, Ws_ex, Ws_ret, Ws_if, Ws_for, Ws_frz, execs, exec, sem, sems, Sm.of, Sm.none, fzs, T.fz, List.map_cons, List.map_nil, List.getElem?_cons_succ, List.getElem?_cons_zero, List.set_cons_succ, List.set_cons_zero, Option.some.injEq, T.v.injEq, T.own.injEq, D.int.injEq, D.bl.injEq, D.tup.injEq, D.str.injEq, exists_eq_left', exists_eq_left, Pg.cf, O_add_int, O_sub_int, O_mul_int, O_fdiv_int, O_mod_int, O_lt_int, O_le_int, O_gt_int, O_ge_int, O_eq_int, O_eq_str, O_ne_str, O_int_int, O_abs_int, O_len_str, O_len_own, O_len_lst, O_max2, O_get_ref, O_get_own, O_get_str, O_get_tup, O_get_lst, O_add_str, O_str_int, O_tuple_own, O_aug_add, O_mul_str, O_pow1018, O_in_ch, O_sl_str, O_truth_own, O_truth_bl, O_itemsOf_tup, O_itemsOf_scr, O_list_scr, O_put1, Ws_setTape, ix_0, ix_1, ix_2, ix_3, Ws_appS, decide_eq_true_eq, Bool.not_eq_true', setAll, Bool.false_eq_true, if_false, if_true]
  exact ⟨cap_ge (by show 3 ≤ 10000; decide), cap_ge (by show 2 ≤ 10000; decide), rfl, trivial⟩
theorem at_mid2 {pre a b : List Nat} {c : Nat} {r : List Nat} {i : Nat} (h : i = pre.length + a.length) : (pre ++ (a ++ (c :: r)))[i]? = some c := by
  subst h
  rw [List.getElem?_append_right (by omega), Nat.add_sub_cancel_left]
  exact at_pre
theorem cut1_mid {pre a r : List Nat} {i : Nat} (h : i = pre.length + a.length) : cut (pre ++ (a ++ r)) (some ((i : Nat) : Int)) (some ((i + 1 : Nat) : Int)) = r.take 1 := by
  subst h
  cases r with
  | nil =>
    unfold cut
    rw [List.drop_eq_nil_of_le]
    · simp
    · rw [show sIx _ 0 _ = min (pre.length + a.length) _ from HT.sIx_nat _ 0 _]
      simp
  | cons c r =>
    have := cut_mid (pre := pre ++ a) (run := [c]) (rest := r)
    rw [List.append_assoc, List.length_append] at this
    exact this
theorem joinN_chr : ∀ s : List Nat, joinN [] (s.map fun c => [c]) = s
  | [] => rfl
  | [c] => rfl
  | c :: d :: r => by
    show [c] ++ ([] ++ joinN [] ((d :: r).map fun c => [c])) = _
    rw [joinN_chr (d :: r)]
    rfl
theorem strs_chr : ∀ s : List Nat, strs? (s.map fun c => .str [c]) = some (s.map fun c => [c])
  | [] => rfl
  | c :: r => by
    show (strs? (r.map fun c => .str [c])).map ([c] :: ·) = _
    rw [strs_chr r]
    rfl
theorem join_chr {s : List Nat} (h : s.length ≤ 100) : joinD (.str []) (.own (s.map fun c => .str [c])) = some (.str s) := by
  unfold joinD
  show (match D.str [], strs? (s.map fun c => D.str [c]) with
    | .str s, some (ys : List (List Nat)) => if (ys.map List.length).sum + ys.length * s.length ≤ cap then some (D.str (joinN s ys)) else none
    | _, _ => none) = _
  rw [strs_chr]
  show (if ((s.map fun c : Nat => ([c] : List Nat)).map List.length).sum + (s.map fun c : Nat => ([c] : List Nat)).length * 0 ≤ cap then some (D.str (joinN [] (s.map fun c => [c]))) else none) = _
  rw [joinN_chr, if_pos]
  refine cap_ge ?_
  have : ((s.map fun c : Nat => ([c] : List Nat)).map List.length).sum = s.length := by
    rw [List.map_map]
    clear h
    induction s with
    | nil => rfl
    | cons c s ih => simp [ih]; omega
  rw [this, Nat.mul_zero]
  omega
theorem dbl_app (a b : List Nat) : dbl 39 (a ++ b) = dbl 39 a ++ dbl 39 b := by
  unfold dbl
  rw [List.flatMap_append]
theorem string_from (k : Nat) {pre s rest : List Nat} {S : Sto} (hc : (pre ++ ((Tk.str s).txt ++ rest)).length ≤ 10000) (h : (Tk.str s).ok) (h2 : ∀ c r, rest = c :: r → c ≠ 39) :
    Gives (call pg (k + 1) 3 [.str (pre ++ ((Tk.str s).txt ++ rest)), .int (pre.length : Nat)] S) (.str s) pre.length S := by
  have hT : pre ++ ((Tk.str s).txt ++ rest) = (pre ++ [39]) ++ (dbl 39 s ++ (39 :: rest)) := by simp [Tk.txt]
  have hlen : (Tk.str s).txt.length = (dbl 39 s).length + 2 := by simp [Tk.txt]
  generalize hX : pre ++ ((Tk.str s).txt ++ rest) = X at *
  refine E_call2 (fd := c_string_from) rfl rfl (σ := [some (.v (.str X)), some (.v (.int (pre.length : Nat))), none, none]) rfl ?_
  simp only [c_string_from, E_some, E_someP, O_some, Ws_some, O_ite, E_bind1, E_bind2, E_lift1, E_lift2, E_lift2b, E_varE, E_varB, E_truthOf, E_asTest, E_itemsR, E_rngR, E_andR, E_andT, E_orT, E_notT, E_condR, E_callR, E_argsR, E_dispR, E_idxT, E_cutR, E_optI, Ws_seq, Ws_set, Ws_setO, Ws_setT, Ws_setI, Ws_aug, Ws_app, Ws_ex, Ws_ret, Ws_if, Ws_for, Ws_frz, execs, exec, sem, sems, Sm.of, Sm.none, fzs, T.fz, List.map_cons, List.map_nil, List.getElem?_cons_succ, List.getElem?_cons_zero, List.set_cons_succ, List.set_cons_zero, Option.some.injEq, T.v.injEq, T.own.injEq, D.int.injEq, D.bl.injEq, D.tup.injEq, D.str.injEq, exists_eq_left', exists_eq_left, Pg.cf, O_add_int, O_sub_int, O_mul_int, O_fdiv_int, O_mod_int, O_lt_int, O_le_int, O_gt_int, O_ge_int, O_eq_int, O_eq_str, O_ne_str, O_int_int, O_abs_int, O_len_str, O_len_own, O_len_lst, O_max2, O_get_ref, O_get_own, O_get_str, O_get_tup, O_get_lst, O_add_str, O_str_int, O_tuple_own, O_aug_add, O_mul_str, O_pow1018, O_in_ch, O_sl_str, O_truth_own, O_truth_bl, O_itemsOf_tup, O_itemsOf_scr, O_list_scr, O_put1, Ws_setTape, ix_0, ix_1, ix_2, ix_3, Ws_appS, decide_eq_true_eq, Bool.not_eq_true', setAll, Bool.false_eq_true, if_false, if_true, gl7]
  have hXl : X.length = pre.length + 1 + (dbl 39 s).length + 1 + rest.length := by
    rw [hT]
    simp
    omega
  refine ⟨cap_ge (by show 0 ≤ 10000; decide), ?_⟩
  refine ws_while (fun m σ S' => ∃ s1 s2 : List Nat, s = s1 ++ s2 ∧ σ = [some (.v (.str X)), some (.v (.int (pre.length : Nat))), some (.own (s1.map fun c => .str [c])), some (.v (.int ((pre.length + 1 + (dbl 39 s1).length : Nat) : Int)))] ∧ S' = S ∧ m = s2.length)
    (fun m σ S' j => ?_) _ s.length ⟨[], s, rfl, rfl, rfl, rfl⟩ (by have := h.2; show s.length < 100000; omega)
  obtain ⟨s1, s2, hs, rfl, rfl, rfl⟩ := j
  have hdl : (dbl 39 s).length = (dbl 39 s1).length + (dbl 39 s2).length := by rw [hs, dbl_app, List.length_append]
  have hXs : X = (pre ++ [39]) ++ (dbl 39 s1 ++ (dbl 39 s2 ++ (39 :: rest))) := by rw [hT, hs, dbl_app]; simp
  have hsl := h.2
  have hs1 : s1.length + s2.length = s.length := by rw [hs, List.length_append]
  have hp1 : (pre ++ [39]).length = pre.length + 1 := by simp
  simp only [E_some, E_someP, O_some, Ws_some, O_ite, E_bind1, E_bind2, E_lift1, E_lift2, E_lift2b, E_varE, E_varB, E_truthOf, E_asTest, E_itemsR, E_rngR, E_andR, E_andT, E_orT, E_notT, E_condR, E_callR, E_argsR, E_dispR, E_idxT, E_cutR, E_optI, Ws_seq, Ws_set, Ws_setO, Ws_setT, Ws_setI, Ws_aug, Ws_app, Ws_ex, Ws_ret, Ws_if, Ws_for, Ws_frz, execs, exec, sem, sems, Sm.of, Sm.none, fzs, T.fz, List.map_cons, List.map_nil, List.getElem?_cons_succ, List.getElem?_cons_zero, List.set_cons_succ, List.set_cons_zero, Option.some.injEq, T.v.injEq, T.own.injEq, D.int.injEq, D.bl.injEq, D.tup.injEq, D.str.injEq, exists_eq_left', exists_eq_left, Pg.cf, O_add_int, O_sub_int, O_mul_int, O_fdiv_int, O_mod_int, O_lt_int, O_le_int, O_gt_int, O_ge_int, O_eq_int, O_eq_str, O_ne_str, O_int_int, O_abs_int, O_len_str, O_len_own, O_len_lst, O_max2, O_get_ref, O_get_own, O_get_str, O_get_tup, O_get_lst, O_add_str, O_str_int, O_tuple_own, O_aug_add, O_mul_str, O_pow1018, O_in_ch, O_sl_str, O_truth_own, O_truth_bl, O_itemsOf_tup, O_itemsOf_scr, O_list_scr, O_put1, Ws_setTape, ix_0, ix_1, ix_2, ix_3, Ws_appS, decide_eq_true_eq, Bool.not_eq_true', setAll, Bool.false_eq_true, if_false, if_true]
  refine ⟨cap_ge hc, ?_⟩
  rw [if_pos (by omega)]
  refine ⟨cap_ge hc, ?_⟩
  rw [ix_nat (by omega)]
  cases s2 with
  | nil =>
    have e : X[pre.length + 1 + (dbl 39 s1).length]? = some 39 := by
      rw [hXs]
      exact at_mid2 (b := []) (by rw [hp1])
    rw [e]
    simp only [E_some, E_someP, O_some, Ws_some, O_ite, E_bind1, E_bind2, E_lift1, E_lift2, E_lift2b, E_varE, E_varB, E_truthOf, E_asTest, E_itemsR, E_rngR, E_andR, E_andT, E_orT, E_notT, E_condR, E_callR, E_argsR, E_dispR, E_idxT, E_cutR, E_optI, Ws_seq, Ws_set, Ws_setO, Ws_setT, Ws_setI, Ws_aug, Ws_app, Ws_ex, Ws_ret, Ws_if, Ws_for, Ws_frz, execs, exec, sem, sems, Sm.of, Sm.none, fzs, T.fz, List.map_cons, List.map_nil, List.getElem?_cons_succ, List.getElem?_cons_zero, List.set_cons_succ, List.set_cons_zero, Option.some.injEq, T.v.injEq, T.own.injEq, D.int.injEq, D.bl.injEq, D.tup.injEq, D.str.injEq, exists_eq_left', exists_eq_left, Pg.cf, O_add_int, O_sub_int, O_mul_int, O_fdiv_int, O_mod_int, O_lt_int, O_le_int, O_gt_int, O_ge_int, O_eq_int, O_eq_str, O_ne_str, O_int_int, O_abs_int, O_len_str, O_len_own, O_len_lst, O_max2, O_get_ref, O_get_own, O_get_str, O_get_tup, O_get_lst, O_add_str, O_str_int, O_tuple_own, O_aug_add, O_mul_str, O_pow1018, O_in_ch, O_sl_str, O_truth_own, O_truth_bl, O_itemsOf_tup, O_itemsOf_scr, O_list_scr, O_put1, Ws_setTape, ix_0, ix_1, ix_2, ix_3, Ws_appS, decide_eq_true_eq, Bool.not_eq_true', setAll, Bool.false_eq_true, if_false, if_true]
    rw [if_neg (by decide)]
    refine ⟨cap_ge hc, ?_⟩
    rw [ix_nat (by omega), e]
    simp only [E_some, E_someP, O_some, Ws_some, O_ite, E_bind1, E_bind2, E_lift1, E_lift2, E_lift2b, E_varE, E_varB, E_truthOf, E_asTest, E_itemsR, E_rngR, E_andR, E_andT, E_orT, E_notT, E_condR, E_callR, E_argsR, E_dispR, E_idxT, E_cutR, E_optI, Ws_seq, Ws_set, Ws_setO, Ws_setT, Ws_setI, Ws_aug, Ws_app, Ws_ex, Ws_ret, Ws_if, Ws_for, Ws_frz, execs, exec, sem, sems, Sm.of, Sm.none, fzs, T.fz, List.map_cons, List.map_nil, List.getElem?_cons_succ, List.getElem?_cons_zero, List.set_cons_succ, List.set_cons_zero, Option.some.injEq, T.v.injEq, T.own.injEq, D.int.injEq, D.bl.injEq, D.tup.injEq, D.str.injEq, exists_eq_left', exists_eq_left, Pg.cf, O_add_int, O_sub_int, O_mul_int, O_fdiv_int, O_mod_int, O_lt_int, O_le_int, O_gt_int, O_ge_int, O_eq_int, O_eq_str, O_ne_str, O_int_int, O_abs_int, O_len_str, O_len_own, O_len_lst, O_max2, O_get_ref, O_get_own, O_get_str, O_get_tup, O_get_lst, O_add_str, O_str_int, O_tuple_own, O_aug_add, O_mul_str, O_pow1018, O_in_ch, O_sl_str, O_truth_own, O_truth_bl, O_itemsOf_tup, O_itemsOf_scr, O_list_scr, O_put1, Ws_setTape, ix_0, ix_1, ix_2, ix_3, Ws_appS, decide_eq_true_eq, Bool.not_eq_true', setAll, Bool.false_eq_true, if_false, if_true]
    refine ⟨cap_ge hc, ?_⟩
    have hcut : cut X (some (((pre.length + 1 + (dbl 39 s1).length : Nat) : Int) + 1)) (some (((pre.length + 1 + (dbl 39 s1).length : Nat) : Int) + 1 + 1)) = rest.take 1 := by
      rw [hXs]
      have := cut1_mid (pre := pre ++ [39]) (a := dbl 39 s1 ++ [39]) (r := rest) (i := pre.length + 1 + (dbl 39 s1).length + 1) (by rw [hp1]; simp; omega)
      simpa [dbl] using this
    rw [hcut]
    have hne : decide (rest.take 1 = [39]) = false := by
      cases rest with
      | nil => rfl
      | cons c r =>
        have := h2 c r rfl
        simp [this]
    rw [if_pos hne, List.length_map, if_neg (by omega)]
    rw [join_chr (by omega)]
    simp only [Option.map_some, E_some, E_someP, O_some, Ws_some, O_ite, E_bind1, E_bind2, E_lift1, E_lift2, E_lift2b, E_varE, E_varB, E_truthOf, E_asTest, E_itemsR, E_rngR, E_andR, E_andT, E_orT, E_notT, E_condR, E_callR, E_argsR, E_dispR, E_idxT, E_cutR, E_optI, Ws_seq, Ws_set, Ws_setO, Ws_setT, Ws_setI, Ws_aug, Ws_app, Ws_ex, Ws_ret, Ws_if, Ws_for, Ws_frz, execs, exec, sem, sems, Sm.of, Sm.none, fzs, T.fz, List.map_cons, List.map_nil, List.getElem?_cons_succ, List.getElem?_cons_zero, List.set_cons_succ, List.set_cons_zero, Option.some.injEq, T.v.injEq, T.own.injEq, D.int.injEq, D.bl.injEq, D.tup.injEq, D.str.injEq, exists_eq_left', exists_eq_left, Pg.cf, O_add_int, O_sub_int, O_mul_int, O_fdiv_int, O_mod_int, O_lt_int, O_le_int, O_gt_int, O_ge_int, O_eq_int, O_eq_str, O_ne_str, O_int_int, O_abs_int, O_len_str, O_len_own, O_len_lst, O_max2, O_get_ref, O_get_own, O_get_str, O_get_tup, O_get_lst, O_add_str, O_str_int, O_tuple_own, O_aug_add, O_mul_str, O_pow1018, O_in_ch, O_sl_str, O_truth_own, O_truth_bl, O_itemsOf_tup, O_itemsOf_scr, O_list_scr, O_put1, Ws_setTape, ix_0, ix_1, ix_2, ix_3, Ws_appS, decide_eq_true_eq, Bool.not_eq_true', setAll, Bool.false_eq_true, if_false, if_true]
    rw [List.append_nil] at hs
    subst hs
    refine ⟨cap_ge (by show 3 ≤ 10000; decide), cap_ge (by show 2 ≤ 10000; decide), ?_, trivial⟩
    rw [hlen, show pre.length + ((dbl 39 s).length + 2) = pre.length + 1 + (dbl 39 s).length + 1 by omega]
    rfl
  | cons c s3 =>
    have hd : dbl 39 (c :: s3) = (if c = 39 then [39, 39] else [c]) ++ dbl 39 s3 := rfl
    have hsc : SC c = true := by
      have := h.1
      rw [hs, List.all_append] at this
      have := (Bool.and_eq_true_iff.mp this).2
      exact (Bool.and_eq_true_iff.mp (show (SC c && s3.all SC) = true from this)).1
    have hc10 : c ≠ 10 := by
      rintro rfl
      exact absurd hsc (by decide)
    have hd1 : dbl 39 (s1 ++ [c]) = dbl 39 s1 ++ (if c = 39 then [39, 39] else [c]) := by
      rw [dbl_app]
      show dbl 39 s1 ++ ((if c = 39 then [39, 39] else [c]) ++ []) = _
      rw [List.append_nil]
    by_cases h39 : c = 39
    · subst h39
      rw [if_pos rfl] at hd hd1
      have e : X[pre.length + 1 + (dbl 39 s1).length]? = some 39 := by
        rw [hXs, hd]
        exact at_mid2 (b := []) (by rw [hp1])
      rw [e]
      simp only [E_some, E_someP, O_some, Ws_some, O_ite, E_bind1, E_bind2, E_lift1, E_lift2, E_lift2b, E_varE, E_varB, E_truthOf, E_asTest, E_itemsR, E_rngR, E_andR, E_andT, E_orT, E_notT, E_condR, E_callR, E_argsR, E_dispR, E_idxT, E_cutR, E_optI, Ws_seq, Ws_set, Ws_setO, Ws_setT, Ws_setI, Ws_aug, Ws_app, Ws_ex, Ws_ret, Ws_if, Ws_for, Ws_frz, execs, exec, sem, sems, Sm.of, Sm.none, fzs, T.fz, List.map_cons, List.map_nil, List.getElem?_cons_succ, List.getElem?_cons_zero, List.set_cons_succ, List.set_cons_zero, Option.some.injEq, T.v.injEq, T.own.injEq, D.int.injEq, D.bl.injEq, D.tup.injEq, D.str.injEq, exists_eq_left', exists_eq_left, Pg.cf, O_add_int, O_sub_int, O_mul_int, O_fdiv_int, O_mod_int, O_lt_int, O_le_int, O_gt_int, O_ge_int, O_eq_int, O_eq_str, O_ne_str, O_int_int, O_abs_int, O_len_str, O_len_own, O_len_lst, O_max2, O_get_ref, O_get_own, O_get_str, O_get_tup, O_get_lst, O_add_str, O_str_int, O_tuple_own, O_aug_add, O_mul_str, O_pow1018, O_in_ch, O_sl_str, O_truth_own, O_truth_bl, O_itemsOf_tup, O_itemsOf_scr, O_list_scr, O_put1, Ws_setTape, ix_0, ix_1, ix_2, ix_3, Ws_appS, decide_eq_true_eq, Bool.not_eq_true', setAll, Bool.false_eq_true, if_false, if_true]
      rw [if_neg (by decide)]
      refine ⟨cap_ge hc, ?_⟩
      rw [ix_nat (by omega), e]
      simp only [E_some, E_someP, O_some, Ws_some, O_ite, E_bind1, E_bind2, E_lift1, E_lift2, E_lift2b, E_varE, E_varB, E_truthOf, E_asTest, E_itemsR, E_rngR, E_andR, E_andT, E_orT, E_notT, E_condR, E_callR, E_argsR, E_dispR, E_idxT, E_cutR, E_optI, Ws_seq, Ws_set, Ws_setO, Ws_setT, Ws_setI, Ws_aug, Ws_app, Ws_ex, Ws_ret, Ws_if, Ws_for, Ws_frz, execs, exec, sem, sems, Sm.of, Sm.none, fzs, T.fz, List.map_cons, List.map_nil, List.getElem?_cons_succ, List.getElem?_cons_zero, List.set_cons_succ, List.set_cons_zero, Option.some.injEq, T.v.injEq, T.own.injEq, D.int.injEq, D.bl.injEq, D.tup.injEq, D.str.injEq, exists_eq_left', exists_eq_left, Pg.cf, O_add_int, O_sub_int, O_mul_int, O_fdiv_int, O_mod_int, O_lt_int, O_le_int, O_gt_int, O_ge_int, O_eq_int, O_eq_str, O_ne_str, O_int_int, O_abs_int, O_len_str, O_len_own, O_len_lst, O_max2, O_get_ref, O_get_own, O_get_str, O_get_tup, O_get_lst, O_add_str, O_str_int, O_tuple_own, O_aug_add, O_mul_str, O_pow1018, O_in_ch, O_sl_str, O_truth_own, O_truth_bl, O_itemsOf_tup, O_itemsOf_scr, O_list_scr, O_put1, Ws_setTape, ix_0, ix_1, ix_2, ix_3, Ws_appS, decide_eq_true_eq, Bool.not_eq_true', setAll, Bool.false_eq_true, if_false, if_true]
      refine ⟨cap_ge hc, ?_⟩
      have hcut : cut X (some (((pre.length + 1 + (dbl 39 s1).length : Nat) : Int) + 1)) (some (((pre.length + 1 + (dbl 39 s1).length : Nat) : Int) + 1 + 1)) = [39] := by
        rw [hXs, hd]
        have := cut1_mid (pre := pre ++ [39]) (a := dbl 39 s1 ++ [39]) (r := 39 :: (dbl 39 s3 ++ 39 :: rest)) (i := pre.length + 1 + (dbl 39 s1).length + 1) (by rw [hp1]; simp; omega)
        simpa using this
      rw [hcut]
      rw [if_neg (by decide)]
      refine ⟨cap_ge hc, ?_⟩
      have e2 : X[pre.length + 1 + (dbl 39 s1).length + 1]? = some 39 := by
        rw [hXs, hd]
        have := at_mid2 (pre := pre ++ [39]) (a := dbl 39 s1 ++ [39]) (b := []) (c := 39) (r := dbl 39 s3 ++ 39 :: rest) (i := pre.length + 1 + (dbl 39 s1).length + 1) (by rw [hp1]; simp; omega)
        simpa using this
      have hl2 : (dbl 39 (39 :: s3)).length = (dbl 39 s3).length + 2 := by rw [hd]; simp
      rw [show (((pre.length + 1 + (dbl 39 s1).length : Nat) : Int) + 1) = ((pre.length + 1 + (dbl 39 s1).length + 1 : Nat) : Int) from rfl, ix_nat (by omega), e2]
      simp only [E_some, E_someP, O_some, Ws_some, O_ite, E_bind1, E_bind2, E_lift1, E_lift2, E_lift2b, E_varE, E_varB, E_truthOf, E_asTest, E_itemsR, E_rngR, E_andR, E_andT, E_orT, E_notT, E_condR, E_callR, E_argsR, E_dispR, E_idxT, E_cutR, E_optI, Ws_seq, Ws_set, Ws_setO, Ws_setT, Ws_setI, Ws_aug, Ws_app, Ws_ex, Ws_ret, Ws_if, Ws_for, Ws_frz, execs, exec, sem, sems, Sm.of, Sm.none, fzs, T.fz, List.map_cons, List.map_nil, List.getElem?_cons_succ, List.getElem?_cons_zero, List.set_cons_succ, List.set_cons_zero, Option.some.injEq, T.v.injEq, T.own.injEq, D.int.injEq, D.bl.injEq, D.tup.injEq, D.str.injEq, exists_eq_left', exists_eq_left, Pg.cf, O_add_int, O_sub_int, O_mul_int, O_fdiv_int, O_mod_int, O_lt_int, O_le_int, O_gt_int, O_ge_int, O_eq_int, O_eq_str, O_ne_str, O_int_int, O_abs_int, O_len_str, O_len_own, O_len_lst, O_max2, O_get_ref, O_get_own, O_get_str, O_get_tup, O_get_lst, O_add_str, O_str_int, O_tuple_own, O_aug_add, O_mul_str, O_pow1018, O_in_ch, O_sl_str, O_truth_own, O_truth_bl, O_itemsOf_tup, O_itemsOf_scr, O_list_scr, O_put1, Ws_setTape, ix_0, ix_1, ix_2, ix_3, Ws_appS, decide_eq_true_eq, Bool.not_eq_true', setAll, Bool.false_eq_true, if_false, if_true]
      refine ⟨cap_ge (by simp; omega), s3.length, by simp, s1 ++ [39], s3, by rw [hs]; simp, ?_, trivial, rfl⟩
      rw [hd1]
      simp
      omega
    · rw [if_neg h39] at hd hd1
      have e : X[pre.length + 1 + (dbl 39 s1).length]? = some c := by
        rw [hXs, hd]
        exact at_mid2 (b := []) (by rw [hp1])
      rw [e]
      simp only [E_some, E_someP, O_some, Ws_some, O_ite, E_bind1, E_bind2, E_lift1, E_lift2, E_lift2b, E_varE, E_varB, E_truthOf, E_asTest, E_itemsR, E_rngR, E_andR, E_andT, E_orT, E_notT, E_condR, E_callR, E_argsR, E_dispR, E_idxT, E_cutR, E_optI, Ws_seq, Ws_set, Ws_setO, Ws_setT, Ws_setI, Ws_aug, Ws_app, Ws_ex, Ws_ret, Ws_if, Ws_for, Ws_frz, execs, exec, sem, sems, Sm.of, Sm.none, fzs, T.fz, List.map_cons, List.map_nil, List.getElem?_cons_succ, List.getElem?_cons_zero, List.set_cons_succ, List.set_cons_zero, Option.some.injEq, T.v.injEq, T.own.injEq, D.int.injEq, D.bl.injEq, D.tup.injEq, D.str.injEq, exists_eq_left', exists_eq_left, Pg.cf, O_add_int, O_sub_int, O_mul_int, O_fdiv_int, O_mod_int, O_lt_int, O_le_int, O_gt_int, O_ge_int, O_eq_int, O_eq_str, O_ne_str, O_int_int, O_abs_int, O_len_str, O_len_own, O_len_lst, O_max2, O_get_ref, O_get_own, O_get_str, O_get_tup, O_get_lst, O_add_str, O_str_int, O_tuple_own, O_aug_add, O_mul_str, O_pow1018, O_in_ch, O_sl_str, O_truth_own, O_truth_bl, O_itemsOf_tup, O_itemsOf_scr, O_list_scr, O_put1, Ws_setTape, ix_0, ix_1, ix_2, ix_3, Ws_appS, decide_eq_true_eq, Bool.not_eq_true', setAll, Bool.false_eq_true, if_false, if_true]
      rw [if_neg (by simpa using hc10)]
      refine ⟨cap_ge hc, ?_⟩
      rw [ix_nat (by omega), e]
      simp only [E_some, E_someP, O_some, Ws_some, O_ite, E_bind1, E_bind2, E_lift1, E_lift2, E_lift2b, E_varE, E_varB, E_truthOf, E_asTest, E_itemsR, E_rngR, E_andR, E_andT, E_orT, E_notT, E_condR, E_callR, E_argsR, E_dispR, E_idxT, E_cutR, E_optI, Ws_seq, Ws_set, Ws_setO, Ws_setT, Ws_setI, Ws_aug, Ws_app, Ws_ex, Ws_ret, Ws_if, Ws_for, Ws_frz, execs, exec, sem, sems, Sm.of, Sm.none, fzs, T.fz, List.map_cons, List.map_nil, List.getElem?_cons_succ, List.getElem?_cons_zero, List.set_cons_succ, List.set_cons_zero, Option.some.injEq, T.v.injEq, T.own.injEq, D.int.injEq, D.bl.injEq, D.tup.injEq, D.str.injEq, exists_eq_left', exists_eq_left, Pg.cf, O_add_int, O_sub_int, O_mul_int, O_fdiv_int, O_mod_int, O_lt_int, O_le_int, O_gt_int, O_ge_int, O_eq_int, O_eq_str, O_ne_str, O_int_int, O_abs_int, O_len_str, O_len_own, O_len_lst, O_max2, O_get_ref, O_get_own, O_get_str, O_get_tup, O_get_lst, O_add_str, O_str_int, O_tuple_own, O_aug_add, O_mul_str, O_pow1018, O_in_ch, O_sl_str, O_truth_own, O_truth_bl, O_itemsOf_tup, O_itemsOf_scr, O_list_scr, O_put1, Ws_setTape, ix_0, ix_1, ix_2, ix_3, Ws_appS, decide_eq_true_eq, Bool.not_eq_true', setAll, Bool.false_eq_true, if_false, if_true]
      rw [if_neg (by simpa using h39)]
      refine ⟨cap_ge hc, ?_⟩
      rw [ix_nat (by omega), e]
      simp only [E_some, E_someP, O_some, Ws_some, O_ite, E_bind1, E_bind2, E_lift1, E_lift2, E_lift2b, E_varE, E_varB, E_truthOf, E_asTest, E_itemsR, E_rngR, E_andR, E_andT, E_orT, E_notT, E_condR, E_callR, E_argsR, E_dispR, E_idxT, E_cutR, E_optI, Ws_seq, Ws_set, Ws_setO, Ws_setT, Ws_setI, Ws_aug, Ws_app, Ws_ex, Ws_ret, Ws_if, Ws_for, Ws_frz, execs, exec, sem, sems, Sm.of, Sm.none, fzs, T.fz, List.map_cons, List.map_nil, List.getElem?_cons_succ, List.getElem?_cons_zero, List.set_cons_succ, List.set_cons_zero, Option.some.injEq, T.v.injEq, T.own.injEq, D.int.injEq, D.bl.injEq, D.tup.injEq, D.str.injEq, exists_eq_left', exists_eq_left, Pg.cf, O_add_int, O_sub_int, O_mul_int, O_fdiv_int, O_mod_int, O_lt_int, O_le_int, O_gt_int, O_ge_int, O_eq_int, O_eq_str, O_ne_str, O_int_int, O_abs_int, O_len_str, O_len_own, O_len_lst, O_max2, O_get_ref, O_get_own, O_get_str, O_get_tup, O_get_lst, O_add_str, O_str_int, O_tuple_own, O_aug_add, O_mul_str, O_pow1018, O_in_ch, O_sl_str, O_truth_own, O_truth_bl, O_itemsOf_tup, O_itemsOf_scr, O_list_scr, O_put1, Ws_setTape, ix_0, ix_1, ix_2, ix_3, Ws_appS, decide_eq_true_eq, Bool.not_eq_true', setAll, Bool.false_eq_true, if_false, if_true]
      refine ⟨cap_ge (by simp; omega), s3.length, by simp, s1 ++ [c], s3, by rw [hs]; simp, ?_, trivial, rfl⟩
      rw [hd1]
      simp
      omega
end Law
namespace Law
open M3
theorem ws_cons {p : Pat} {r : RS} {d : D} {ds : List D} {σ : Sl} {S : Sto} {V : Fl → Sl → Sto → Prop} (h : O (p.put d σ) fun σ1 => Ws (r σ1 S) fun f σ2 S2 => match f with
      | .nx => Ws (forL p r ds σ2 S2) V
      | .ct => Ws (forL p r ds σ2 S2) V
      | .bk => V .nx σ2 S2
      | .rt x => V (.rt x) σ2 S2) : Ws (forL p r (d :: ds) σ S) V := by
  obtain ⟨σ1, e1, f, σ2, S2, e2, q⟩ := h
  unfold forL
  rw [e1]
  show Ws (match r σ1 S with
    | some (.nx, σ2, S2) => forL p r ds σ2 S2
    | some (.ct, σ2, S2) => forL p r ds σ2 S2
    | some (.bk, σ2, S2) => some (.nx, σ2, S2)
    | some (.rt x, σ2, S2) => some (.rt x, σ2, S2)
    | none => none) V
  rw [e2]
  cases f with
  | nx => exact q
  | ct => exact q
  | bk => exact Ws_some.mpr q
  | rt x => exact Ws_some.mpr q
theorem ws_find {r : RS} {a b : Option T} {S : Sto} {V : Fl → Sl → Sto → Prop} {test : List Nat → Bool} {y : List Nat}
    (hit : ∀ x4, Ws (r [a, b, some (.v (.str y)), x4] S) fun f σ2 S2 => match f with
      | .rt x => V (.rt x) σ2 S2
      | _ => False)
    (miss : ∀ z x4, test z = false → Ws (r [a, b, some (.v (.str z)), x4] S) fun f σ2 S2 => f = .nx ∧ S2 = S ∧ ∃ x4', σ2 = [a, b, some (.v (.str z)), x4']) :
    ∀ (zs : List (List Nat)) x3 x4, zs.find? test = some y → Ws (forL (.one 2) r (zs.map D.str) [a, b, x3, x4] S) V
  | [], _, _, h => by cases h
  | z :: zs, x3, x4, h => by
    refine ws_cons ?_
    rw [O_put1]
    show Ws (r [a, b, some (.v (.str z)), x4] S) _
    rw [List.find?_cons] at h
    cases ht : test z with
    | true =>
      rw [ht] at h
      cases h
      refine (hit x4).mono fun f σ2 S2 q => ?_
      cases f with
      | rt x => exact q
      | nx => exact q.elim
      | bk => exact q.elim
      | ct => exact q.elim
    | false =>
      rw [ht] at h
      refine (miss z x4 ht).mono fun f σ2 S2 q => ?_
      obtain ⟨rfl, rfl, x4', rfl⟩ := q
      exact ws_find hit miss zs _ _ h
/-- what may come next -/
def follow (t : Tk) (rest : List Nat) : Prop := ∀ c r, rest = c :: r → match t with
  | .word _ => WC c = false
  | .num _ _ => DC c = false
  | .str _ => c ≠ 39
  | .sym y => y = [60] ∨ y = [62] → c ≠ 61
theorem cut_take {pre q : List Nat} {n : Nat} : cut (pre ++ q) (some ((pre.length : Nat) : Int)) (some ((pre.length + n : Nat) : Int)) = q.take n := by
  unfold cut
  rw [show sIx (pre ++ q).length 0 (some ((pre.length : Nat) : Int)) = pre.length by
    rw [show sIx _ 0 _ = min pre.length _ from HT.sIx_nat _ 0 _]
    simp]
  rw [show sIx (pre ++ q).length (pre ++ q).length (some ((pre.length + n : Nat) : Int)) = min (pre.length + n) (pre.length + q.length) by
    rw [show sIx _ _ _ = min (pre.length + n) _ from HT.sIx_nat _ _ _, List.length_append]]
  rw [List.drop_left]
  by_cases h : n ≤ q.length
  · rw [Nat.min_eq_left (by omega), Nat.add_sub_cancel_left]
  · rw [Nat.min_eq_right (by omega), Nat.add_sub_cancel_left, List.take_of_length_le (by omega), List.take_of_length_le (by omega)]
theorem find_sym {y rest : List Nat} (h : y ∈ SYMS) (f : follow (.sym y) rest) : SYMS.find? (fun z => decide ((y ++ rest).take z.length = z)) = some y := by
  unfold SYMS at h
  simp only [List.mem_cons, List.not_mem_nil, or_false] at h
  cases rest with
  | nil => rcases h with rfl | rfl | rfl | rfl | rfl | rfl | rfl | rfl | rfl | rfl | rfl | rfl | rfl | rfl <;> decide
  | cons c r =>
    have g := f c r rfl
    rcases h with rfl | rfl | rfl | rfl | rfl | rfl | rfl | rfl | rfl | rfl | rfl | rfl | rfl | rfl <;> simp [SYMS, List.find?_cons] <;> simp at g <;> simp [g]
theorem find_congr {p q : List Nat → Bool} : ∀ {l : List (List Nat)}, (∀ z ∈ l, p z = q z) → l.find? p = l.find? q
  | [], _ => rfl
  | a :: l, h => by
    rw [List.find?_cons, List.find?_cons, h a List.mem_cons_self, find_congr fun z hz => h z (List.mem_cons_of_mem _ hz)]
theorem symbol_from (k : Nat) {pre y rest : List Nat} {S : Sto} (hc : (pre ++ (y ++ rest)).length ≤ 10000) (h : y ∈ SYMS) (f : follow (.sym y) rest) :
    Gives (call pg (k + 1) 4 [.str (pre ++ (y ++ rest)), .int (pre.length : Nat)] S) (.sym y) pre.length S := by
  refine E_call2 (fd := c_symbol_from) rfl rfl (σ := [some (.v (.str (pre ++ (y ++ rest)))), some (.v (.int (pre.length : Nat))), none, none]) rfl ?_
  simp only [c_symbol_from, E_some, E_someP, O_some, Ws_some, O_ite, E_bind1, E_bind2, E_lift1, E_lift2, E_lift2b, E_varE, E_varB, E_truthOf, E_asTest, E_itemsR, E_rngR, E_andR, E_andT, E_orT, E_notT, E_condR, E_callR, E_argsR, E_dispR, E_idxT, E_cutR, E_optI, Ws_seq, Ws_set, Ws_setO, Ws_setT, Ws_setI, Ws_aug, Ws_app, Ws_ex, Ws_ret, Ws_if, Ws_for, Ws_frz, execs, exec, sem, sems, Sm.of, Sm.none, fzs, T.fz, List.map_cons, List.map_nil, List.getElem?_cons_succ, List.getElem?_cons_zero, List.set_cons_succ, List.set_cons_zero, Option.some.injEq, T.v.injEq, T.own.injEq, D.int.injEq, D.bl.injEq, D.tup.injEq, D.str.injEq, exists_eq_left', exists_eq_left, Pg.cf, O_add_int, O_sub_int, O_mul_int, O_fdiv_int, O_mod_int, O_lt_int, O_le_int, O_gt_int, O_ge_int, O_eq_int, O_eq_str, O_ne_str, O_int_int, O_abs_int, O_len_str, O_len_own, O_len_lst, O_max2, O_get_ref, O_get_own, O_get_str, O_get_tup, O_get_lst, O_add_str, O_str_int, O_tuple_own, O_aug_add, O_mul_str, O_pow1018, O_in_ch, O_sl_str, O_truth_own, O_truth_bl, O_itemsOf_tup, O_itemsOf_scr, O_list_scr, O_put1, Ws_setTape, ix_0, ix_1, ix_2, ix_3, Ws_appS, decide_eq_true_eq, Bool.not_eq_true', setAll, Bool.false_eq_true, if_false, if_true, gl3]
  have small : ∀ z ∈ SYMS, z.length ≤ 2 := by decide
  have hF := find_sym h f
  have := small y h
  refine ws_find (test := fun z => decide ((y ++ rest).take z.length = z) || decide (1000 < z.length)) (y := y) (fun x4 => ?_) (fun z x4 ht => ?_) SYMS none none ?_
  · simp only [E_some, E_someP, O_some, Ws_some, O_ite, E_bind1, E_bind2, E_lift1, E_lift2, E_lift2b, E_varE, E_varB, E_truthOf, E_asTest, E_itemsR, E_rngR, E_andR, E_andT, E_orT, E_notT, E_condR, E_callR, E_argsR, E_dispR, E_idxT, E_cutR, E_optI, Ws_seq, Ws_set, Ws_setO, Ws_setT, Ws_setI, Ws_aug, Ws_app, Ws_ex, Ws_ret, Ws_if, Ws_for, Ws_frz, execs, exec, sem, sems, Sm.of, Sm.none, fzs, T.fz, List.map_cons, List.map_nil, List.getElem?_cons_succ, List.getElem?_cons_zero, List.set_cons_succ, List.set_cons_zero, Option.some.injEq, T.v.injEq, T.own.injEq, D.int.injEq, D.bl.injEq, D.tup.injEq, D.str.injEq, exists_eq_left', exists_eq_left, Pg.cf, O_add_int, O_sub_int, O_mul_int, O_fdiv_int, O_mod_int, O_lt_int, O_le_int, O_gt_int, O_ge_int, O_eq_int, O_eq_str, O_ne_str, O_int_int, O_abs_int, O_len_str, O_len_own, O_len_lst, O_max2, O_get_ref, O_get_own, O_get_str, O_get_tup, O_get_lst, O_add_str, O_str_int, O_tuple_own, O_aug_add, O_mul_str, O_pow1018, O_in_ch, O_sl_str, O_truth_own, O_truth_bl, O_itemsOf_tup, O_itemsOf_scr, O_list_scr, O_put1, Ws_setTape, ix_0, ix_1, ix_2, ix_3, Ws_appS, decide_eq_true_eq, Bool.not_eq_true', setAll, Bool.false_eq_true, if_false, if_true]
    refine ⟨cap_ge (by omega), cap_ge hc, ?_⟩
    rw [show ((pre.length : Nat) : Int) + ((y.length : Nat) : Int) = ((pre.length + y.length : Nat) : Int) from rfl, cut_take, List.take_left]
    simp only [E_some, E_someP, O_some, Ws_some, O_ite, E_bind1, E_bind2, E_lift1, E_lift2, E_lift2b, E_varE, E_varB, E_truthOf, E_asTest, E_itemsR, E_rngR, E_andR, E_andT, E_orT, E_notT, E_condR, E_callR, E_argsR, E_dispR, E_idxT, E_cutR, E_optI, Ws_seq, Ws_set, Ws_setO, Ws_setT, Ws_setI, Ws_aug, Ws_app, Ws_ex, Ws_ret, Ws_if, Ws_for, Ws_frz, execs, exec, sem, sems, Sm.of, Sm.none, fzs, T.fz, List.map_cons, List.map_nil, List.getElem?_cons_succ, List.getElem?_cons_zero, List.set_cons_succ, List.set_cons_zero, Option.some.injEq, T.v.injEq, T.own.injEq, D.int.injEq, D.bl.injEq, D.tup.injEq, D.str.injEq, exists_eq_left', exists_eq_left, Pg.cf, O_add_int, O_sub_int, O_mul_int, O_fdiv_int, O_mod_int, O_lt_int, O_le_int, O_gt_int, O_ge_int, O_eq_int, O_eq_str, O_ne_str, O_int_int, O_abs_int, O_len_str, O_len_own, O_len_lst, O_max2, O_get_ref, O_get_own, O_get_str, O_get_tup, O_get_lst, O_add_str, O_str_int, O_tuple_own, O_aug_add, O_mul_str, O_pow1018, O_in_ch, O_sl_str, O_truth_own, O_truth_bl, O_itemsOf_tup, O_itemsOf_scr, O_list_scr, O_put1, Ws_setTape, ix_0, ix_1, ix_2, ix_3, Ws_appS, decide_eq_true_eq, Bool.not_eq_true', setAll, Bool.false_eq_true, if_false, if_true]
    exact ⟨cap_ge (by show 3 ≤ 10000; decide), cap_ge (by show 2 ≤ 10000; decide), rfl, trivial⟩
  · rw [Bool.or_eq_false_iff, decide_eq_false_iff_not, decide_eq_false_iff_not] at ht
    simp only [E_some, E_someP, O_some, Ws_some, O_ite, E_bind1, E_bind2, E_lift1, E_lift2, E_lift2b, E_varE, E_varB, E_truthOf, E_asTest, E_itemsR, E_rngR, E_andR, E_andT, E_orT, E_notT, E_condR, E_callR, E_argsR, E_dispR, E_idxT, E_cutR, E_optI, Ws_seq, Ws_set, Ws_setO, Ws_setT, Ws_setI, Ws_aug, Ws_app, Ws_ex, Ws_ret, Ws_if, Ws_for, Ws_frz, execs, exec, sem, sems, Sm.of, Sm.none, fzs, T.fz, List.map_cons, List.map_nil, List.getElem?_cons_succ, List.getElem?_cons_zero, List.set_cons_succ, List.set_cons_zero, Option.some.injEq, T.v.injEq, T.own.injEq, D.int.injEq, D.bl.injEq, D.tup.injEq, D.str.injEq, exists_eq_left', exists_eq_left, Pg.cf, O_add_int, O_sub_int, O_mul_int, O_fdiv_int, O_mod_int, O_lt_int, O_le_int, O_gt_int, O_ge_int, O_eq_int, O_eq_str, O_ne_str, O_int_int, O_abs_int, O_len_str, O_len_own, O_len_lst, O_max2, O_get_ref, O_get_own, O_get_str, O_get_tup, O_get_lst, O_add_str, O_str_int, O_tuple_own, O_aug_add, O_mul_str, O_pow1018, O_in_ch, O_sl_str, O_truth_own, O_truth_bl, O_itemsOf_tup, O_itemsOf_scr, O_list_scr, O_put1, Ws_setTape, ix_0, ix_1, ix_2, ix_3, Ws_appS, decide_eq_true_eq, Bool.not_eq_true', setAll, Bool.false_eq_true, if_false, if_true]
    refine ⟨cap_ge (by omega), cap_ge hc, ?_⟩
    rw [show ((pre.length : Nat) : Int) + ((z.length : Nat) : Int) = ((pre.length + z.length : Nat) : Int) from rfl, cut_take, if_neg ht.1]
    try simp only [E_some, E_someP, O_some, Ws_some, O_ite, E_bind1, E_bind2, E_lift1, E_lift2, E_lift2b, E_varE, E_varB, E_truthOf, E_asTest, E_itemsR, E_rngR, E_andR, E_andT, E_orT, E_notT, E_condR, E_callR, E_argsR, E_dispR, E_idxT, E_cutR, E_optI, Ws_seq, Ws_set, Ws_setO, Ws_setT, Ws_setI, Ws_aug, Ws_app, Ws_ex, Ws_ret, Ws_if, Ws_for, Ws_frz, execs, exec, sem, sems, Sm.of, Sm.none, fzs, T.fz, List.map_cons, List.map_nil, List.getElem?_cons_succ, List.getElem?_cons_zero, List.set_cons_succ, List.set_cons_zero, Option.some.injEq, T.v.injEq, T.own.injEq, D.int.injEq, D.bl.injEq, D.tup.injEq, D.str.injEq, exists_eq_left', exists_eq_left, Pg.cf, O_add_int, O_sub_int, O_mul_int, O_fdiv_int, O_mod_int, O_lt_int, O_le_int, O_gt_int, O_ge_int, O_eq_int, O_eq_str, O_ne_str, O_int_int, O_abs_int, O_len_str, O_len_own, O_len_lst, O_max2, O_get_ref, O_get_own, O_get_str, O_get_tup, O_get_lst, O_add_str, O_str_int, O_tuple_own, O_aug_add, O_mul_str, O_pow1018, O_in_ch, O_sl_str, O_truth_own, O_truth_bl, O_itemsOf_tup, O_itemsOf_scr, O_list_scr, O_put1, Ws_setTape, ix_0, ix_1, ix_2, ix_3, Ws_appS, decide_eq_true_eq, Bool.not_eq_true', setAll, Bool.false_eq_true, if_false, if_true]
    exact ⟨trivial, trivial, _, rfl⟩
  · rw [← hF]
    refine find_congr fun z hz => ?_
    have := small z hz
    rw [decide_eq_false (show ¬ 1000 < z.length by omega), Bool.or_false]
/-! ### a whole text -/
abbrev Seg := List Nat × Tk
def BL (c : Nat) : Bool := c == 32 || c == 10
def flat : List Seg → List Nat → List Nat
  | [], tr => tr
  | (b, t) :: r, tr => b ++ (t.txt ++ flat r tr)
def dueL : Nat → List Seg → List D
  | _, [] => []
  | n, (b, t) :: r => .tup [.str t.kind, t.val, .int ((n + b.length : Nat) : Int)] :: dueL (n + b.length + t.txt.length) r
def wf : List Seg → List Nat → Prop
  | [], tr => tr.all BL = true
  | (b, t) :: r, tr => b.all BL = true ∧ t.ok ∧ follow t (flat r tr) ∧ wf r tr
theorem txt_cons {t : Tk} (h : t.ok) : ∃ c r, t.txt = c :: r ∧ match t with
    | .word _ => LC c = true
    | .num _ _ => DC c = true
    | .str _ => c = 39
    | .sym _ => ¬ (c = 32 ∨ c = 10) ∧ LC c = false ∧ DC c = false ∧ c ≠ 39 := by
  cases t with
  | word w =>
    obtain ⟨⟨c, r, rfl, h1, _⟩, _⟩ := h
    exact ⟨c, r, rfl, h1⟩
  | num n t =>
    obtain ⟨_, h1, h2, _⟩ := h
    cases t with
    | nil => exact absurd rfl h1
    | cons c r => exact ⟨c, r, rfl, (Bool.and_eq_true_iff.mp (show (DC c && r.all DC) = true from h2)).1⟩
  | str s => exact ⟨39, _, rfl, rfl⟩
  | sym y =>
    have h : y ∈ SYMS := h
    unfold SYMS at h
    simp only [List.mem_cons, List.not_mem_nil, or_false] at h
    rcases h with rfl | rfl | rfl | rfl | rfl | rfl | rfl | rfl | rfl | rfl | rfl | rfl | rfl | rfl <;> exact ⟨_, _, rfl, by decide, by decide, by decide, by decide⟩
theorem tokens_of (k : Nat) {segs : List Seg} {tr : List Nat} {S : Sto} (hc : (flat segs tr).length ≤ 10000) (h : wf segs tr) : E (call pg (k + 3) 5 [.str (flat segs tr)] S) fun x S' => x = .v (.tup (dueL 0 segs)) ∧ S' = S := by
  refine E_call2 (fd := c_tokens_of) rfl rfl (σ := [some (.v (.str (flat segs tr))), none, none, none]) rfl ?_
  simp only [c_tokens_of, E_some, E_someP, O_some, Ws_some, O_ite, E_bind1, E_bind2, E_lift1, E_lift2, E_lift2b, E_varE, E_varB, E_truthOf, E_asTest, E_itemsR, E_rngR, E_andR, E_andT, E_orT, E_notT, E_condR, E_callR, E_argsR, E_dispR, E_idxT, E_cutR, E_optI, Ws_seq, Ws_set, Ws_setO, Ws_setT, Ws_setI, Ws_aug, Ws_app, Ws_ex, Ws_ret, Ws_if, Ws_for, Ws_frz, execs, exec, sem, sems, Sm.of, Sm.none, fzs, T.fz, List.map_cons, List.map_nil, List.getElem?_cons_succ, List.getElem?_cons_zero, List.set_cons_succ, List.set_cons_zero, Option.some.injEq, T.v.injEq, T.own.injEq, D.int.injEq, D.bl.injEq, D.tup.injEq, D.str.injEq, exists_eq_left', exists_eq_left, Pg.cf, O_add_int, O_sub_int, O_mul_int, O_fdiv_int, O_mod_int, O_lt_int, O_le_int, O_gt_int, O_ge_int, O_eq_int, O_eq_str, O_ne_str, O_int_int, O_abs_int, O_len_str, O_len_own, O_len_lst, O_max2, O_get_ref, O_get_own, O_get_str, O_get_tup, O_get_lst, O_add_str, O_str_int, O_tuple_own, O_aug_add, O_mul_str, O_pow1018, O_in_ch, O_sl_str, O_truth_own, O_truth_bl, O_itemsOf_tup, O_itemsOf_scr, O_list_scr, O_put1, Ws_setTape, ix_0, ix_1, ix_2, ix_3, Ws_appS, decide_eq_true_eq, Bool.not_eq_true', setAll, Bool.false_eq_true, if_false, if_true, gl0, gl1]
  refine ⟨cap_ge (by show 0 ≤ 10000; decide), ?_⟩
  generalize hX : flat segs tr = X at *
  refine ws_while (fun m σ S' => ∃ (pre : List Nat) (acc : List D) (r : List Seg) (tr' : List Nat) (tk : Option T), X = pre ++ flat r tr' ∧ wf r tr' ∧ acc ++ dueL pre.length r = dueL 0 segs ∧
      σ = [some (.v (.str X)), some (.own acc), some (.v (.int ((pre.length : Nat) : Int))), tk] ∧ S' = S ∧ m = (flat r tr').length ∧ acc.length ≤ pre.length)
    (fun m σ S' j => ?_) _ X.length ⟨[], [], segs, tr, none, hX.symm, h, rfl, rfl, rfl, by rw [hX], Nat.le_refl _⟩ (by show X.length < 100000; omega)
  obtain ⟨pre, acc, r, tr', tk, hx, hwf, hacc, rfl, rfl, rfl, hal⟩ := j
  have hxl : X.length = pre.length + (flat r tr').length := by rw [hx, List.length_append]
  simp only [E_some, E_someP, O_some, Ws_some, O_ite, E_bind1, E_bind2, E_lift1, E_lift2, E_lift2b, E_varE, E_varB, E_truthOf, E_asTest, E_itemsR, E_rngR, E_andR, E_andT, E_orT, E_notT, E_condR, E_callR, E_argsR, E_dispR, E_idxT, E_cutR, E_optI, Ws_seq, Ws_set, Ws_setO, Ws_setT, Ws_setI, Ws_aug, Ws_app, Ws_ex, Ws_ret, Ws_if, Ws_for, Ws_frz, execs, exec, sem, sems, Sm.of, Sm.none, fzs, T.fz, List.map_cons, List.map_nil, List.getElem?_cons_succ, List.getElem?_cons_zero, List.set_cons_succ, List.set_cons_zero, Option.some.injEq, T.v.injEq, T.own.injEq, D.int.injEq, D.bl.injEq, D.tup.injEq, D.str.injEq, exists_eq_left', exists_eq_left, Pg.cf, O_add_int, O_sub_int, O_mul_int, O_fdiv_int, O_mod_int, O_lt_int, O_le_int, O_gt_int, O_ge_int, O_eq_int, O_eq_str, O_ne_str, O_int_int, O_abs_int, O_len_str, O_len_own, O_len_lst, O_max2, O_get_ref, O_get_own, O_get_str, O_get_tup, O_get_lst, O_add_str, O_str_int, O_tuple_own, O_aug_add, O_mul_str, O_pow1018, O_in_ch, O_sl_str, O_truth_own, O_truth_bl, O_itemsOf_tup, O_itemsOf_scr, O_list_scr, O_put1, Ws_setTape, ix_0, ix_1, ix_2, ix_3, Ws_appS, decide_eq_true_eq, Bool.not_eq_true', setAll, Bool.false_eq_true, if_false, if_true]
  refine ⟨cap_ge hc, ?_⟩
  -- a blank
  have blank : ∀ (c : Nat) (r' : List Seg) (tr2 : List Nat), BL c = true → flat r tr' = c :: flat r' tr2 → wf r' tr2 → dueL pre.length r = dueL (pre.length + 1) r' → ∃ m', m' < (flat r tr').length ∧ ∃ (p2 : List Nat) (acc2 : List D) (r2 : List Seg) (tr3 : List Nat) (tk2 : Option T), X = p2 ++ flat r2 tr3 ∧ wf r2 tr3 ∧ acc2 ++ dueL p2.length r2 = dueL 0 segs ∧
      [some (T.v (.str X)), some (.own acc), some (.v (.int (((pre.length : Nat) : Int) + 1))), tk] = [some (.v (.str X)), some (.own acc2), some (.v (.int ((p2.length : Nat) : Int))), tk2] ∧ True ∧ m' = (flat r2 tr3).length ∧ acc2.length ≤ p2.length := by
    intro c r' tr2 hb hf hw hd
    refine ⟨(flat r' tr2).length, by rw [hf]; simp, pre ++ [c], acc, r', tr2, tk, by rw [hx, hf]; simp, hw, ?_, ?_, trivial, rfl, by simp; omega⟩
    · rw [List.length_append]
      show acc ++ dueL (pre.length + 1) r' = _
      rw [← hd, hacc]
    · rw [List.length_append]
      rfl
  have at0 : ∀ c q, flat r tr' = c :: q → X[pre.length]? = some c := fun c q e => by
    rw [hx, e]
    exact at_pre
  have bl : ∀ (c : Nat) (r' : List Seg) (tr2 : List Nat), BL c = true → flat r tr' = c :: flat r' tr2 → wf r' tr2 → dueL pre.length r = dueL (pre.length + 1) r' → ((pre.length : Nat) : Int) < ((X.length : Nat) : Int) ∧ pre.length < X.length ∧ X[pre.length]? = some c ∧ c ∈ [32, 10] := by
    intro c r' tr2 hb hf hw hd
    have : (flat r tr').length = (flat r' tr2).length + 1 := by rw [hf]; rfl
    refine ⟨by omega, by omega, at0 c _ hf, ?_⟩
    unfold BL at hb
    simpa using hb
  cases r with
  | nil =>
    cases tr' with
    | nil =>
      have : (flat [] ([] : List Nat)).length = 0 := rfl
      rw [if_neg (by omega)]
      have e : acc ++ [] = dueL 0 segs := hacc
      rw [List.append_nil] at e
      exact ⟨e, trivial⟩
    | cons c q =>
      have hb : BL c = true ∧ q.all BL = true := Bool.and_eq_true_iff.mp (show (BL c && q.all BL) = true from hwf)
      obtain ⟨g1, g2, g3, g4⟩ := bl c [] q hb.1 rfl hb.2 rfl
      rw [if_pos g1]
      refine ⟨cap_ge hc, ?_⟩
      rw [ix_nat g2, g3]
      simp only [O_some]
      rw [if_pos g4]
      exact blank c [] q hb.1 rfl hb.2 rfl
  | cons sg r' =>
    obtain ⟨b, t⟩ := sg
    obtain ⟨w1, w2, w3, w4⟩ := hwf
    cases b with
    | cons c b' =>
      have hb : BL c = true ∧ b'.all BL = true := Bool.and_eq_true_iff.mp (show (BL c && b'.all BL) = true from w1)
      have hd : dueL pre.length ((c :: b', t) :: r') = dueL (pre.length + 1) ((b', t) :: r') := by
        unfold dueL
        rw [show pre.length + (c :: b').length = pre.length + 1 + b'.length by rw [List.length_cons]; omega]
      obtain ⟨g1, g2, g3, g4⟩ := bl c ((b', t) :: r') tr' hb.1 rfl ⟨hb.2, w2, w3, w4⟩ hd
      rw [if_pos g1]
      refine ⟨cap_ge hc, ?_⟩
      rw [ix_nat g2, g3]
      simp only [O_some]
      rw [if_pos g4]
      exact blank c ((b', t) :: r') tr' hb.1 rfl ⟨hb.2, w2, w3, w4⟩ hd
    | nil =>
      have hx' : X = pre ++ (t.txt ++ flat r' tr') := hx
      have hc' : (pre ++ (t.txt ++ flat r' tr')).length ≤ 10000 := by rw [← hx']; exact hc
      obtain ⟨c, q, hq, hk⟩ := txt_cons w2
      have hf : flat (([], t) :: r') tr' = c :: (q ++ flat r' tr') := by
        show [] ++ (t.txt ++ flat r' tr') = _
        rw [hq]
        rfl
      have hfl : (flat (([], t) :: r') tr').length = t.txt.length + (flat r' tr').length := by
        show ([] ++ (t.txt ++ flat r' tr')).length = _
        rw [List.nil_append, List.length_append]
      have htl : 0 < t.txt.length := by rw [hq]; exact Nat.succ_pos _
      have cont : ∀ o : Option (T × Sto), Gives o t pre.length S' → E o fun x S1 => ∃ ds, x = T.v (D.tup ds) ∧ O (setAll [some (T.v (D.str X)), some (T.own acc), some (T.v (D.int ((pre.length : Nat) : Int))), tk] [3, 2] ds) fun σ1 => ∃ d, σ1[3]? = some (some (T.v d)) ∧ ∃ xs, σ1[1]? = some (some (T.own xs)) ∧ xs.length + [d].length ≤ cap ∧
          ∃ m', m' < (flat (([], t) :: r') tr').length ∧ ∃ (p2 : List Nat) (acc2 : List D) (r2 : List Seg) (tr3 : List Nat) (tk2 : Option T), X = p2 ++ flat r2 tr3 ∧ wf r2 tr3 ∧ acc2 ++ dueL p2.length r2 = dueL 0 segs ∧
            List.set σ1 1 (some (T.own (xs ++ [d]))) = [some (T.v (D.str X)), some (T.own acc2), some (T.v (D.int ((p2.length : Nat) : Int))), tk2] ∧ S1 = S' ∧ m' = (flat r2 tr3).length ∧ acc2.length ≤ p2.length := by
        intro o ho
        refine ho.mono fun x S1 => ?_
        rintro ⟨rfl, rfl⟩
        refine ⟨_, rfl, _, rfl, _, rfl, _, rfl, cap_ge (by show acc.length + 1 ≤ _; omega), (flat r' tr').length, by omega, pre ++ t.txt, acc ++ [.tup [.str t.kind, t.val, .int ((pre.length : Nat) : Int)]], r', tr', some (.v (.tup [.str t.kind, t.val, .int ((pre.length : Nat) : Int)])), by rw [hx']; simp, w4, ?_, ?_, rfl, rfl, by simp; omega⟩
        · rw [List.length_append, List.append_assoc]
          exact hacc
        · rw [List.length_append]
          rfl
      have hlt : pre.length < X.length := by omega
      have hX0 := at0 c _ hf
      have hg : ∀ f, Gives (call pg (k + 2) f [.str (pre ++ (t.txt ++ flat r' tr')), .int (pre.length : Nat)] S') t pre.length S' → Gives (call pg (k + 2) f [.str X, .int (pre.length : Nat)] S') t pre.length S' := fun f h => by
        rw [← hx'] at h
        exact h
      rw [if_pos (by omega)]
      refine ⟨cap_ge hc, ?_⟩
      rw [ix_nat hlt, hX0]
      simp only [O_some]
      cases t with
      | word w =>
        have h1 : LC c = true := hk
        rw [if_neg (by
          intro z
          simp at z
          rcases z with rfl | rfl <;> exact absurd h1 (by decide))]
        refine ⟨cap_ge hc, ?_⟩
        rw [ix_nat hlt, hX0]
        simp only [O_some]
        rw [if_pos (mem_lets.mpr h1)]
        exact cont _ (hg 1 (word_from k hc' w2 fun c r e => w3 c r e))
      | num n t =>
        have h1 : DC c = true := hk
        have h2 : 48 ≤ c ∧ c ≤ 57 := by unfold DC at h1; simpa using h1
        rw [if_neg (by
          intro z
          simp at z
          omega)]
        refine ⟨cap_ge hc, ?_⟩
        rw [ix_nat hlt, hX0]
        simp only [O_some]
        rw [if_neg (by
          rw [mem_lets]
          intro z
          unfold LC at z
          simp at z
          omega)]
        refine ⟨cap_ge hc, ?_⟩
        rw [ix_nat hlt, hX0]
        simp only [O_some]
        rw [if_pos (mem_digs.mpr h1)]
        exact cont _ (hg 2 (number_from k hc' w2 fun c r e => w3 c r e))
      | str s =>
        have h1 : c = 39 := hk
        subst h1
        rw [if_neg (by decide)]
        refine ⟨cap_ge hc, ?_⟩
        rw [ix_nat hlt, hX0]
        simp only [O_some]
        rw [if_neg (by decide)]
        refine ⟨cap_ge hc, ?_⟩
        rw [ix_nat hlt, hX0]
        simp only [O_some]
        rw [if_neg (by decide)]
        refine ⟨cap_ge hc, ?_⟩
        rw [ix_nat hlt, hX0]
        simp only [O_some]
        rw [if_pos trivial]
        exact cont _ (hg 3 (string_from (k + 1) hc' w2 fun c r e => w3 c r e))
      | sym y =>
        obtain ⟨h1, h2, h3, h4⟩ := hk
        rw [if_neg (by simpa using h1)]
        refine ⟨cap_ge hc, ?_⟩
        rw [ix_nat hlt, hX0]
        simp only [O_some]
        rw [if_neg (by rw [mem_lets, h2]; exact Bool.false_ne_true)]
        refine ⟨cap_ge hc, ?_⟩
        rw [ix_nat hlt, hX0]
        simp only [O_some]
        rw [if_neg (by rw [mem_digs, h3]; exact Bool.false_ne_true)]
        refine ⟨cap_ge hc, ?_⟩
        rw [ix_nat hlt, hX0]
        simp only [O_some]
        rw [if_neg (by simpa using h4)]
        exact cont _ (hg 4 (symbol_from (k + 1) hc' w2 w3))
end Law
namespace Law
open M3
/-! ### what may stand side by side -/
def partB : Tk → Tk → Bool
  | .sym y, .sym z => (y == [60] || y == [62]) && z == [61]
  | .sym _, _ => false
  | .word _, .word _ => true
  | .word _, .num _ _ => true
  | .num _ _, .num _ _ => true
  | .str _, .str _ => true
  | _, _ => false
theorem eq_int_str {n : Int} {s : List Nat} {B : Bool → Prop} (h : PySem.PyData.strOk ⟨s.toArray⟩ = true) : O (C2.run .eq (.v (.int n)) (.v (.str s))) B ↔ B false := by
  have e : eqT (.v (.int n)) (.v (.str s)) = some false := by
    show eqD (.int n) (.str s) = some false
    unfold eqD
    simp [D.py, PySem.SeqAt.shaped, PySem.PyData.eqv, PySem.PyData.canLay0, PySem.PyData.depth, h]
  show O (eqT (.v (.int n)) (.v (.str s))) B ↔ _
  rw [e]
  exact O_some
theorem parted (k : Nat) (t u : Tk) (ht : t.ok) (hu : u.ok) (S : Sto) : E (call pg (k + 1) 13 [t.d, u.d] S) fun x S' => x = .v (.bl (partB t u)) ∧ S' = S := by
  refine E_call2 (fd := c_law_parted) rfl rfl (σ := [some (.v t.d), some (.v u.d)]) rfl ?_
  simp only [c_law_parted, E_some, E_someP, O_some, Ws_some, O_ite, E_bind1, E_bind2, E_lift1, E_lift2, E_lift2b, E_varE, E_varB, E_truthOf, E_asTest, E_itemsR, E_rngR, E_andR, E_andT, E_orT, E_notT, E_condR, E_callR, E_argsR, E_dispR, E_idxT, E_cutR, E_optI, Ws_seq, Ws_set, Ws_setO, Ws_setT, Ws_setI, Ws_aug, Ws_app, Ws_ex, Ws_ret, Ws_if, Ws_for, Ws_frz, execs, exec, sem, sems, Sm.of, Sm.none, fzs, T.fz, List.map_cons, List.map_nil, List.getElem?_cons_succ, List.getElem?_cons_zero, List.set_cons_succ, List.set_cons_zero, Option.some.injEq, T.v.injEq, T.own.injEq, D.int.injEq, D.bl.injEq, D.tup.injEq, D.str.injEq, exists_eq_left', exists_eq_left, Pg.cf, O_add_int, O_sub_int, O_mul_int, O_fdiv_int, O_mod_int, O_lt_int, O_le_int, O_gt_int, O_ge_int, O_eq_int, O_eq_str, O_ne_str, O_int_int, O_abs_int, O_len_str, O_len_own, O_len_lst, O_max2, O_get_ref, O_get_own, O_get_str, O_get_tup, O_get_lst, O_add_str, O_str_int, O_tuple_own, O_aug_add, O_mul_str, O_pow1018, O_in_ch, O_sl_str, O_truth_own, O_truth_bl, O_itemsOf_tup, O_itemsOf_scr, O_list_scr, O_put1, Ws_setTape, ix_0, ix_1, ix_2, ix_3, Ws_appS, decide_eq_true_eq, Bool.not_eq_true', setAll, Bool.false_eq_true, if_false, if_true, Tk.d]
  cases t with
  | sym y =>
    rw [if_pos (show (Tk.sym y).kind = [115, 121, 109, 98, 111, 108] from rfl)]
    refine ⟨cap_ge (by show 2 ≤ 10000; decide), ?_⟩
    have e : (Tk.sym y).val = .str y := rfl
    rw [e, O_in_own rfl]
    have e2 : ([D.str [60], D.str [62]].any fun d => d.feq (.str y)) = (y == [60] || y == [62]) := by
      show (([60] == y) || (([62] == y) || false)) = _
      rw [Bool.or_false, Bool.beq_comm, Bool.beq_comm (a := [62])]
    rw [e2]
    split
    · rename_i hy
      cases u with
      | num n t =>
        rw [show (Tk.num n t).val = .int (n : Int) from rfl, eq_int_str (by decide +kernel)]
        exact ⟨rfl, trivial⟩
      | word w =>
        rw [show (Tk.word w).val = .str w from rfl, O_eq_str]
        split <;> exact ⟨rfl, trivial⟩
      | str w =>
        rw [show (Tk.str w).val = .str w from rfl, O_eq_str]
        split <;> exact ⟨rfl, trivial⟩
      | sym z =>
        rw [show (Tk.sym z).val = .str z from rfl, O_eq_str]
        show if decide (z = [61]) = true then decide (kSym = kSym) = ((y == [60] || y == [62]) && z == [61]) ∧ True else false = ((y == [60] || y == [62]) && z == [61]) ∧ True
        rw [hy]
        by_cases hz : z = [61]
        · subst hz
          exact ⟨rfl, trivial⟩
        · rw [if_neg (by simpa using hz)]
          refine ⟨?_, trivial⟩
          simp [hz]
    · rename_i hy
      refine ⟨?_, trivial⟩
      have hy : (y == [60] || y == [62]) = false := by simpa using hy
      cases u with
      | sym z =>
        show false = ((y == [60] || y == [62]) && z == [61])
        rw [hy]
        rfl
      | _ => rfl
  | _ => cases u <;> exact ⟨rfl, trivial⟩
/-! ### the segments -/
def lastT : Option Tk → List Seg → Option Tk
  | l, [] => l
  | _, (_, t) :: r => lastT (some t) r
def chain : Option Tk → List Seg → Prop
  | _, [] => True
  | l, (b, t) :: r => b.all BL = true ∧ t.ok ∧ (∀ u, l = some u → b ≠ [] ∨ partB u t = false) ∧ chain (some t) r
theorem chain_snoc {b : List Nat} {t : Tk} (hb : b.all BL = true) (ht : t.ok) : ∀ {r : List Seg} {l : Option Tk}, chain l r → (∀ u, lastT l r = some u → b ≠ [] ∨ partB u t = false) → chain l (r ++ [(b, t)])
  | [], _, _, h => ⟨hb, ht, h, trivial⟩
  | (_, _) :: _, _, ⟨h1, h2, h3, h4⟩, h => ⟨h1, h2, h3, chain_snoc hb ht h4 h⟩
theorem lastT_snoc {b : List Nat} {t : Tk} : ∀ {r : List Seg} {l : Option Tk}, lastT l (r ++ [(b, t)]) = some t
  | [], _ => rfl
  | (_, u) :: r, _ => lastT_snoc (r := r) (l := some u)
theorem flat_snoc {b tr : List Nat} {t : Tk} : ∀ {r : List Seg}, flat (r ++ [(b, t)]) tr = flat r (b ++ (t.txt ++ tr))
  | [] => rfl
  | (c, u) :: r => by
    show c ++ (u.txt ++ flat (r ++ [(b, t)]) tr) = _
    rw [flat_snoc (r := r)]
    rfl
theorem flat_tr {tr : List Nat} : ∀ {r : List Seg}, flat r tr = flat r [] ++ tr
  | [] => rfl
  | (c, u) :: r => by
    show c ++ (u.txt ++ flat r tr) = c ++ (u.txt ++ flat r []) ++ tr
    rw [flat_tr (r := r)]
    simp
theorem due_snoc {b : List Nat} {t : Tk} : ∀ {r : List Seg} {n : Nat}, dueL n (r ++ [(b, t)]) = dueL n r ++ [.tup [.str t.kind, t.val, .int ((n + (flat r []).length + b.length : Nat) : Int)]]
  | [], n => rfl
  | (c, u) :: r, n => by
    show _ :: dueL (n + c.length + u.txt.length) (r ++ [(b, t)]) = _ :: (dueL (n + c.length + u.txt.length) r ++ _)
    rw [due_snoc (r := r)]
    show _ :: (_ ++ [D.tup [_, _, .int ((n + c.length + u.txt.length + (flat r []).length + b.length : Nat) : Int)]]) = _ :: (_ ++ [D.tup [_, _, .int ((n + (c ++ (u.txt ++ flat r [])).length + b.length : Nat) : Int)]])
    rw [List.length_append, List.length_append, show n + c.length + u.txt.length + (flat r []).length + b.length = n + (c.length + (u.txt.length + (flat r []).length)) + b.length by omega]
theorem BL_of {c : Nat} (h : BL c = true) : c = 32 ∨ c = 10 := by
  unfold BL at h
  simpa using h
theorem follow_bl {t : Tk} {c : Nat} {r : List Nat} (h : BL c = true) : follow t (c :: r) := by
  intro d q e
  cases e
  rcases BL_of h with rfl | rfl
  · cases t with
    | word _ => exact (by decide : WC 32 = false)
    | num _ _ => exact (by decide : DC 32 = false)
    | str _ => exact (by decide : (32 : Nat) ≠ 39)
    | sym _ => exact fun _ => (by decide : (32 : Nat) ≠ 61)
  · cases t with
    | word _ => exact (by decide : WC 10 = false)
    | num _ _ => exact (by decide : DC 10 = false)
    | str _ => exact (by decide : (10 : Nat) ≠ 39)
    | sym _ => exact fun _ => (by decide : (10 : Nat) ≠ 61)
theorem follow_tk {t u : Tk} {r : List Nat} (hu : u.ok) (h : partB t u = false) : follow t (u.txt ++ r) := by
  obtain ⟨c, q, hq, hk⟩ := txt_cons hu
  intro d q' e
  rw [hq] at e
  obtain ⟨rfl, _⟩ := List.cons.inj (show c :: (q ++ r) = d :: q' from e)
  cases t with
  | word w =>
    cases u with
    | word _ => cases h
    | num _ _ => cases h
    | str _ =>
      have hk : c = 39 := hk
      subst hk
      exact (by decide : WC 39 = false)
    | sym _ =>
      obtain ⟨h1, h2, h3, h4⟩ := hk
      have hu : _ ∈ SYMS := hu
      show WC c = false
      unfold WC
      rw [h2, h3]
      show (c == 95) = false
      rw [beq_eq_false_iff_ne]
      rintro rfl
      unfold SYMS at hu
      simp only [List.mem_cons, List.not_mem_nil, or_false] at hu
      rcases hu with rfl | rfl | rfl | rfl | rfl | rfl | rfl | rfl | rfl | rfl | rfl | rfl | rfl | rfl <;> cases hq
  | num _ _ =>
    cases u with
    | word _ =>
      have hk : LC c = true := hk
      show DC c = false
      unfold LC at hk
      unfold DC
      simp at hk ⊢
      omega
    | num _ _ => cases h
    | str _ =>
      have hk : c = 39 := hk
      subst hk
      exact (by decide : DC 39 = false)
    | sym _ => exact hk.2.2.1
  | str _ =>
    show c ≠ 39
    cases u with
    | word _ =>
      have hk : LC c = true := hk
      rintro rfl
      exact absurd hk (by decide)
    | num _ _ =>
      have hk : DC c = true := hk
      rintro rfl
      exact absurd hk (by decide)
    | str _ => cases h
    | sym _ => exact hk.2.2.2
  | sym y =>
    show y = [60] ∨ y = [62] → c ≠ 61
    intro hy
    rintro rfl
    cases u with
    | word _ => exact absurd (show LC 61 = true from hk) (by decide)
    | num _ _ => exact absurd (show DC 61 = true from hk) (by decide)
    | str _ => exact absurd (show 61 = 39 from hk) (by decide)
    | sym z =>
      have hz : z = [61] := by
        have hu : z ∈ SYMS := hu
        unfold SYMS at hu
        simp only [List.mem_cons, List.not_mem_nil, or_false] at hu
        rcases hu with rfl | rfl | rfl | rfl | rfl | rfl | rfl | rfl | rfl | rfl | rfl | rfl | rfl | rfl <;> first | rfl | cases hq
      subst hz
      have h : ((y == [60] || y == [62]) && ([61] : List Nat) == [61]) = false := h
      rcases hy with rfl | rfl <;> exact absurd h (by decide)
theorem wf_of {tr : List Nat} (htr : tr.all BL = true) : ∀ {r : List Seg} {l : Option Tk}, chain l r → wf r tr ∧ ∀ u, l = some u → follow u (flat r tr)
  | [], l, _ => by
    refine ⟨htr, fun u _ => ?_⟩
    cases tr with
    | nil => intro c r e; cases e
    | cons c r => exact follow_bl (Bool.and_eq_true_iff.mp (show (BL c && r.all BL) = true from htr)).1
  | (b, t) :: r, l, ⟨h1, h2, h3, h4⟩ => by
    obtain ⟨q1, q2⟩ := wf_of htr h4
    refine ⟨⟨h1, h2, q2 t rfl, q1⟩, fun u e => ?_⟩
    cases b with
    | cons c b' => exact follow_bl (Bool.and_eq_true_iff.mp (show (BL c && b'.all BL) = true from h1)).1
    | nil =>
      rcases h3 u e with z | z
      · exact absurd rfl z
      · exact follow_tk h2 z
/-! ### the law -/
def bigTk (t : Tk) (h : t.ok) : t.txt.length ≤ 42 := by
  cases t with
  | word w => have := h.2; show w.length ≤ 42; omega
  | num n t => obtain ⟨_, _, _, h, _⟩ := h; show t.length ≤ 42; omega
  | str s =>
    have := h.2
    have := dbl_len s
    show (39 :: (dbl 39 s ++ [39])).length ≤ 42
    simp
    omega
  | sym y =>
    have : ∀ y ∈ SYMS, y.length ≤ 2 := by decide
    have := this y h
    show y.length ≤ 42
    omega
def blankP (s : List Nat) : Bool := s.all BL && decide (s.length ≤ 3)
theorem blankP_of {s : List Nat} (h : blankP s = true) : s.all BL = true ∧ s.length ≤ 3 := by
  unfold blankP at h
  rw [Bool.and_eq_true, decide_eq_true_eq] at h
  exact h
theorem dueL_len : ∀ {r : List Seg} {n : Nat}, (dueL n r).length = r.length
  | [], _ => rfl
  | (_, _) :: r, _ => congrArg (· + 1) (dueL_len (r := r))
theorem absorb {lead tr : List Nat} (hl : lead.all BL = true) (htr : tr.all BL = true) {segs : List Seg} (h : chain none segs) : ∃ segs2 tr2, lead ++ flat segs [] ++ tr = flat segs2 tr2 ∧ wf segs2 tr2 ∧ dueL 0 segs2 = dueL lead.length segs := by
  cases segs with
  | nil => exact ⟨[], lead ++ tr, by show lead ++ [] ++ tr = lead ++ tr; rw [List.append_nil], by show (lead ++ tr).all BL = true; rw [List.all_append, hl, htr]; rfl, rfl⟩
  | cons a r =>
    obtain ⟨b, t⟩ := a
    obtain ⟨w1, w2, w3, w4⟩ := (wf_of htr h).1
    refine ⟨(lead ++ b, t) :: r, tr, ?_, ⟨by rw [List.all_append, hl, w1]; rfl, w2, w3, w4⟩, ?_⟩
    · show lead ++ flat ((b, t) :: r) [] ++ tr = (lead ++ b) ++ (t.txt ++ flat r tr)
      rw [List.append_assoc, ← flat_tr]
      show lead ++ (b ++ (t.txt ++ flat r tr)) = _
      rw [List.append_assoc]
    · unfold dueL
      rw [List.length_append, Nat.zero_add]
theorem due_ok : ∀ {r : List Seg} {n : Nat} {l : Option Tk}, chain l r → n + (flat r []).length < 10000 → okDs (dueL n r) = true ∧ roomDs (dueL n r) ≤ 320 * r.length ∧ depDs (dueL n r) ≤ 1
  | [], _, _, _, _ => ⟨rfl, Nat.zero_le _, Nat.zero_le _⟩
  | (b, t) :: r, n, l, ⟨h1, h2, h3, h4⟩, hl => by
    have e : (flat ((b, t) :: r) []).length = b.length + (t.txt.length + (flat r []).length) := by
      show (b ++ (t.txt ++ flat r [])).length = _
      rw [List.length_append, List.length_append]
    obtain ⟨q1, q2, q3⟩ := due_ok h4 (n := n + b.length + t.txt.length) (by omega)
    have ht : okD t.val = true ∧ roomD t.val ≤ 202 ∧ depD t.val = 0 := by
      cases t with
      | word w =>
        obtain ⟨⟨c, r, rfl, h5, h6⟩, h7⟩ := h2
        refine ⟨?_, by show 10 * _ + 2 ≤ _; omega, rfl⟩
        show (List.all (c :: r) fun c => decide (c < 4294967296)) = true
        rw [List.all_eq_true]
        intro d hd
        rw [decide_eq_true_eq]
        rcases List.mem_cons.mp hd with rfl | hd
        · unfold LC at h5
          simp at h5
          omega
        · have := List.all_eq_true.mp h6 d hd
          unfold WC LC DC at this
          simp at this
          omega
      | num k t =>
        obtain ⟨h5, _⟩ := h2
        refine ⟨?_, by show 10 ≤ 202; decide, rfl⟩
        show (decide ((0 : Int) ≤ (k : Int)) && decide ((k : Int) < 10000000000)) = true
        rw [Bool.and_eq_true, decide_eq_true_eq, decide_eq_true_eq]
        omega
      | str s =>
        obtain ⟨h5, h6⟩ := h2
        refine ⟨?_, by show 10 * _ + 2 ≤ _; omega, rfl⟩
        show (List.all s fun c => decide (c < 4294967296)) = true
        rw [List.all_eq_true]
        intro d hd
        have := List.all_eq_true.mp h5 d hd
        unfold SC at this
        simp at this
        rw [decide_eq_true_eq]
        omega
      | sym y =>
        have := (by decide : ∀ y ∈ SYMS, (y.all fun c => decide (c < 4294967296)) = true ∧ 10 * y.length + 2 ≤ 202)
        exact ⟨(this y h2).1, (this y h2).2, rfl⟩
    have hk : okD (.str t.kind) = true ∧ roomD (.str t.kind) ≤ 62 := by
      cases t with
      | word _ => exact (by decide : okD (.str kWord) = true ∧ roomD (.str kWord) ≤ 62)
      | num _ _ => exact (by decide : okD (.str kNum) = true ∧ roomD (.str kNum) ≤ 62)
      | str _ => exact (by decide : okD (.str kStr) = true ∧ roomD (.str kStr) ≤ 62)
      | sym _ => exact (by decide : okD (.str kSym) = true ∧ roomD (.str kSym) ≤ 62)
    have hp : okD (.int ((n + b.length : Nat) : Int)) = true := by
      show (decide ((0 : Int) ≤ ((n + b.length : Nat) : Int)) && decide (((n + b.length : Nat) : Int) < 10000000000)) = true
      rw [Bool.and_eq_true, decide_eq_true_eq, decide_eq_true_eq]
      omega
    refine ⟨?_, ?_, ?_⟩
    · show ((okD (.str t.kind) && (okD t.val && (okD (.int ((n + b.length : Nat) : Int)) && true))) && okDs (dueL (n + b.length + t.txt.length) r)) = true
      rw [hk.1, ht.1, hp, q1]
      rfl
    · show (roomD (.str t.kind) + 2 + (roomD t.val + 2 + (10 + 2 + 0))) + 3 + 2 + roomDs (dueL (n + b.length + t.txt.length) r) ≤ 320 * (r.length + 1)
      have := hk.2
      have := ht.2.1
      omega
    · show max (max 0 (max (depD t.val) (max 0 0)) + 1) (depDs (dueL (n + b.length + t.txt.length) r)) ≤ 1
      rw [ht.2.2]
      omega
theorem law_true (ns : List Int) (h : ns.length ≤ 63) : ∃ S, M3.call pg 200 14 [.scr ns] [] = some (.v (.bl true), S) := by
  suffices E (call pg 200 14 [.scr ns] []) fun x _ => x = .v (.bl true) by
    obtain ⟨x, S, e, rfl⟩ := this
    exact ⟨S, e⟩
  refine E_call2 (k := 199) (fd := c_law) rfl rfl (σ := [some (.v (.scr ns)), none, none, none, none, none, none, none]) rfl ?_
  simp only [c_law, E_some, E_someP, O_some, Ws_some, O_ite, E_bind1, E_bind2, E_lift1, E_lift2, E_lift2b, E_varE, E_varB, E_truthOf, E_asTest, E_itemsR, E_rngR, E_andR, E_andT, E_orT, E_notT, E_condR, E_callR, E_argsR, E_dispR, E_idxT, E_cutR, E_optI, Ws_seq, Ws_set, Ws_setO, Ws_setT, Ws_setI, Ws_aug, Ws_app, Ws_ex, Ws_ret, Ws_if, Ws_for, Ws_frz, execs, exec, sem, sems, Sm.of, Sm.none, fzs, T.fz, List.map_cons, List.map_nil, List.getElem?_cons_succ, List.getElem?_cons_zero, List.set_cons_succ, List.set_cons_zero, Option.some.injEq, T.v.injEq, T.own.injEq, D.int.injEq, D.bl.injEq, D.tup.injEq, D.str.injEq, exists_eq_left', exists_eq_left, Pg.cf, O_add_int, O_sub_int, O_mul_int, O_fdiv_int, O_mod_int, O_lt_int, O_le_int, O_gt_int, O_ge_int, O_eq_int, O_eq_str, O_ne_str, O_int_int, O_abs_int, O_len_str, O_len_own, O_len_lst, O_max2, O_get_ref, O_get_own, O_get_str, O_get_tup, O_get_lst, O_add_str, O_str_int, O_tuple_own, O_aug_add, O_mul_str, O_pow1018, O_in_ch, O_sl_str, O_truth_own, O_truth_bl, O_itemsOf_tup, O_itemsOf_scr, O_list_scr, O_put1, Ws_setTape, ix_0, ix_1, ix_2, ix_3, Ws_appS, decide_eq_true_eq, Bool.not_eq_true', setAll, Bool.false_eq_true, if_false, if_true]
  refine (tape 198 ns h).mono fun x S' => ?_
  rintro ⟨rfl, t⟩
  simp only [E_some, E_someP, O_some, Ws_some, O_ite, E_bind1, E_bind2, E_lift1, E_lift2, E_lift2b, E_varE, E_varB, E_truthOf, E_asTest, E_itemsR, E_rngR, E_andR, E_andT, E_orT, E_notT, E_condR, E_callR, E_argsR, E_dispR, E_idxT, E_cutR, E_optI, Ws_seq, Ws_set, Ws_setO, Ws_setT, Ws_setI, Ws_aug, Ws_app, Ws_ex, Ws_ret, Ws_if, Ws_for, Ws_frz, execs, exec, sem, sems, Sm.of, Sm.none, fzs, T.fz, List.map_cons, List.map_nil, List.getElem?_cons_succ, List.getElem?_cons_zero, List.set_cons_succ, List.set_cons_zero, Option.some.injEq, T.v.injEq, T.own.injEq, D.int.injEq, D.bl.injEq, D.tup.injEq, D.str.injEq, exists_eq_left', exists_eq_left, Pg.cf, O_add_int, O_sub_int, O_mul_int, O_fdiv_int, O_mod_int, O_lt_int, O_le_int, O_gt_int, O_ge_int, O_eq_int, O_eq_str, O_ne_str, O_int_int, O_abs_int, O_len_str, O_len_own, O_len_lst, O_max2, O_get_ref, O_get_own, O_get_str, O_get_tup, O_get_lst, O_add_str, O_str_int, O_tuple_own, O_aug_add, O_mul_str, O_pow1018, O_in_ch, O_sl_str, O_truth_own, O_truth_bl, O_itemsOf_tup, O_itemsOf_scr, O_list_scr, O_put1, Ws_setTape, ix_0, ix_1, ix_2, ix_3, Ws_appS, decide_eq_true_eq, Bool.not_eq_true', setAll, Bool.false_eq_true, if_false, if_true]
  refine ⟨cap_ge (by show 3 ≤ 10000; decide), ?_⟩
  refine draw 198 t (by decide) (by decide) fun r S h2 t => ?_
  simp only [E_some, E_someP, O_some, Ws_some, O_ite, E_bind1, E_bind2, E_lift1, E_lift2, E_lift2b, E_varE, E_varB, E_truthOf, E_asTest, E_itemsR, E_rngR, E_andR, E_andT, E_orT, E_notT, E_condR, E_callR, E_argsR, E_dispR, E_idxT, E_cutR, E_optI, Ws_seq, Ws_set, Ws_setO, Ws_setT, Ws_setI, Ws_aug, Ws_app, Ws_ex, Ws_ret, Ws_if, Ws_for, Ws_frz, execs, exec, sem, sems, Sm.of, Sm.none, fzs, T.fz, List.map_cons, List.map_nil, List.getElem?_cons_succ, List.getElem?_cons_zero, List.set_cons_succ, List.set_cons_zero, Option.some.injEq, T.v.injEq, T.own.injEq, D.int.injEq, D.bl.injEq, D.tup.injEq, D.str.injEq, exists_eq_left', exists_eq_left, Pg.cf, O_add_int, O_sub_int, O_mul_int, O_fdiv_int, O_mod_int, O_lt_int, O_le_int, O_gt_int, O_ge_int, O_eq_int, O_eq_str, O_ne_str, O_int_int, O_abs_int, O_len_str, O_len_own, O_len_lst, O_max2, O_get_ref, O_get_own, O_get_str, O_get_tup, O_get_lst, O_add_str, O_str_int, O_tuple_own, O_aug_add, O_mul_str, O_pow1018, O_in_ch, O_sl_str, O_truth_own, O_truth_bl, O_itemsOf_tup, O_itemsOf_scr, O_list_scr, O_put1, Ws_setTape, ix_0, ix_1, ix_2, ix_3, Ws_appS, decide_eq_true_eq, Bool.not_eq_true', setAll, Bool.false_eq_true, if_false, if_true]
  refine pickP (fun d => strP blankP d = true) (by omega) h2 (all_of (by decide)) fun d hd => ?_
  obtain ⟨lead, rfl, hlead⟩ := strP_of hd
  refine ⟨cap_ge (by show 0 ≤ 10000; decide), cap_ge (by show 3 ≤ 10000; decide), ?_⟩
  refine draw 198 t (by decide) (by decide) fun n S h2 t => ?_
  simp only [E_some, E_someP, O_some, Ws_some, O_ite, E_bind1, E_bind2, E_lift1, E_lift2, E_lift2b, E_varE, E_varB, E_truthOf, E_asTest, E_itemsR, E_rngR, E_andR, E_andT, E_orT, E_notT, E_condR, E_callR, E_argsR, E_dispR, E_idxT, E_cutR, E_optI, Ws_seq, Ws_set, Ws_setO, Ws_setT, Ws_setI, Ws_aug, Ws_app, Ws_ex, Ws_ret, Ws_if, Ws_for, Ws_frz, execs, exec, sem, sems, Sm.of, Sm.none, fzs, T.fz, List.map_cons, List.map_nil, List.getElem?_cons_succ, List.getElem?_cons_zero, List.set_cons_succ, List.set_cons_zero, Option.some.injEq, T.v.injEq, T.own.injEq, D.int.injEq, D.bl.injEq, D.tup.injEq, D.str.injEq, exists_eq_left', exists_eq_left, Pg.cf, O_add_int, O_sub_int, O_mul_int, O_fdiv_int, O_mod_int, O_lt_int, O_le_int, O_gt_int, O_ge_int, O_eq_int, O_eq_str, O_ne_str, O_int_int, O_abs_int, O_len_str, O_len_own, O_len_lst, O_max2, O_get_ref, O_get_own, O_get_str, O_get_tup, O_get_lst, O_add_str, O_str_int, O_tuple_own, O_aug_add, O_mul_str, O_pow1018, O_in_ch, O_sl_str, O_truth_own, O_truth_bl, O_itemsOf_tup, O_itemsOf_scr, O_list_scr, O_put1, Ws_setTape, ix_0, ix_1, ix_2, ix_3, Ws_appS, decide_eq_true_eq, Bool.not_eq_true', setAll, Bool.false_eq_true, if_false, if_true]
  refine ⟨by omega, ?_⟩
  rw [Int.toNat_natCast]
  have hld := blankP_of hlead
  refine ws_range (fun i σ S' => ∃ (segs : List Seg) (last : Tk) (x5 x6 x7 : Option T), σ = [some (.v (.scr ns)), some (.v (.ref 0)), some (.v (.str (lead ++ flat segs []))), some (.own (dueL lead.length segs)), some (.v last.d), x5, x6, x7] ∧ Tp ns S' ∧
      chain none segs ∧ last.ok ∧ (segs ≠ [] → lastT none segs = some last) ∧ (flat segs []).length ≤ 45 * i ∧ segs.length = i)
    ⟨[], .sym [40], none, none, none, by rw [show flat [] [] = [] from rfl, List.append_nil]; rfl, t, trivial, (by decide : [40] ∈ SYMS), fun z => absurd rfl z, Nat.le_refl _, rfl⟩ (fun i σ S' hi j' => ?_) fun σ S' j' => ?_
  · obtain ⟨segs, last, x5, x6, x7, rfl, t, hch, hlk, hlast, hlen, hsl⟩ := j'
    simp only [E_some, E_someP, O_some, Ws_some, O_ite, E_bind1, E_bind2, E_lift1, E_lift2, E_lift2b, E_varE, E_varB, E_truthOf, E_asTest, E_itemsR, E_rngR, E_andR, E_andT, E_orT, E_notT, E_condR, E_callR, E_argsR, E_dispR, E_idxT, E_cutR, E_optI, Ws_seq, Ws_set, Ws_setO, Ws_setT, Ws_setI, Ws_aug, Ws_app, Ws_ex, Ws_ret, Ws_if, Ws_for, Ws_frz, execs, exec, sem, sems, Sm.of, Sm.none, fzs, T.fz, List.map_cons, List.map_nil, List.getElem?_cons_succ, List.getElem?_cons_zero, List.set_cons_succ, List.set_cons_zero, Option.some.injEq, T.v.injEq, T.own.injEq, D.int.injEq, D.bl.injEq, D.tup.injEq, D.str.injEq, exists_eq_left', exists_eq_left, Pg.cf, O_add_int, O_sub_int, O_mul_int, O_fdiv_int, O_mod_int, O_lt_int, O_le_int, O_gt_int, O_ge_int, O_eq_int, O_eq_str, O_ne_str, O_int_int, O_abs_int, O_len_str, O_len_own, O_len_lst, O_max2, O_get_ref, O_get_own, O_get_str, O_get_tup, O_get_lst, O_add_str, O_str_int, O_tuple_own, O_aug_add, O_mul_str, O_pow1018, O_in_ch, O_sl_str, O_truth_own, O_truth_bl, O_itemsOf_tup, O_itemsOf_scr, O_list_scr, O_put1, Ws_setTape, ix_0, ix_1, ix_2, ix_3, Ws_appS, decide_eq_true_eq, Bool.not_eq_true', setAll, Bool.false_eq_true, if_false, if_true]
    refine (one 195 t).mono fun x S' => ?_
    rintro ⟨tk, rfl, htk, t⟩
    simp only [E_some, E_someP, O_some, Ws_some, O_ite, E_bind1, E_bind2, E_lift1, E_lift2, E_lift2b, E_varE, E_varB, E_truthOf, E_asTest, E_itemsR, E_rngR, E_andR, E_andT, E_orT, E_notT, E_condR, E_callR, E_argsR, E_dispR, E_idxT, E_cutR, E_optI, Ws_seq, Ws_set, Ws_setO, Ws_setT, Ws_setI, Ws_aug, Ws_app, Ws_ex, Ws_ret, Ws_if, Ws_for, Ws_frz, execs, exec, sem, sems, Sm.of, Sm.none, fzs, T.fz, List.map_cons, List.map_nil, List.getElem?_cons_succ, List.getElem?_cons_zero, List.set_cons_succ, List.set_cons_zero, Option.some.injEq, T.v.injEq, T.own.injEq, D.int.injEq, D.bl.injEq, D.tup.injEq, D.str.injEq, exists_eq_left', exists_eq_left, Pg.cf, O_add_int, O_sub_int, O_mul_int, O_fdiv_int, O_mod_int, O_lt_int, O_le_int, O_gt_int, O_ge_int, O_eq_int, O_eq_str, O_ne_str, O_int_int, O_abs_int, O_len_str, O_len_own, O_len_lst, O_max2, O_get_ref, O_get_own, O_get_str, O_get_tup, O_get_lst, O_add_str, O_str_int, O_tuple_own, O_aug_add, O_mul_str, O_pow1018, O_in_ch, O_sl_str, O_truth_own, O_truth_bl, O_itemsOf_tup, O_itemsOf_scr, O_list_scr, O_put1, Ws_setTape, ix_0, ix_1, ix_2, ix_3, Ws_appS, decide_eq_true_eq, Bool.not_eq_true', setAll, Bool.false_eq_true, if_false, if_true]
    refine ⟨cap_ge (by show 6 ≤ 10000; decide), ?_⟩
    refine draw 198 t (by decide) (by decide) fun q S hq t => ?_
    simp only [E_some, E_someP, O_some, Ws_some, O_ite, E_bind1, E_bind2, E_lift1, E_lift2, E_lift2b, E_varE, E_varB, E_truthOf, E_asTest, E_itemsR, E_rngR, E_andR, E_andT, E_orT, E_notT, E_condR, E_callR, E_argsR, E_dispR, E_idxT, E_cutR, E_optI, Ws_seq, Ws_set, Ws_setO, Ws_setT, Ws_setI, Ws_aug, Ws_app, Ws_ex, Ws_ret, Ws_if, Ws_for, Ws_frz, execs, exec, sem, sems, Sm.of, Sm.none, fzs, T.fz, List.map_cons, List.map_nil, List.getElem?_cons_succ, List.getElem?_cons_zero, List.set_cons_succ, List.set_cons_zero, Option.some.injEq, T.v.injEq, T.own.injEq, D.int.injEq, D.bl.injEq, D.tup.injEq, D.str.injEq, exists_eq_left', exists_eq_left, Pg.cf, O_add_int, O_sub_int, O_mul_int, O_fdiv_int, O_mod_int, O_lt_int, O_le_int, O_gt_int, O_ge_int, O_eq_int, O_eq_str, O_ne_str, O_int_int, O_abs_int, O_len_str, O_len_own, O_len_lst, O_max2, O_get_ref, O_get_own, O_get_str, O_get_tup, O_get_lst, O_add_str, O_str_int, O_tuple_own, O_aug_add, O_mul_str, O_pow1018, O_in_ch, O_sl_str, O_truth_own, O_truth_bl, O_itemsOf_tup, O_itemsOf_scr, O_list_scr, O_put1, Ws_setTape, ix_0, ix_1, ix_2, ix_3, Ws_appS, decide_eq_true_eq, Bool.not_eq_true', setAll, Bool.false_eq_true, if_false, if_true]
    refine pickP (fun d => strP blankP d = true) (by omega) hq (all_of (by decide)) fun d hd => ?_
    obtain ⟨b, rfl, hb⟩ := strP_of hd
    have hdl : (dueL lead.length segs).length = segs.length := dueL_len
    have htl := bigTk tk htk
    have fin : ∀ (b' : List Nat) (S1 : Sto) (y5 y7 : Option T), blankP b' = true → (segs = [] ∨ b' ≠ [] ∨ partB last tk = false) → Tp ns S1 →
        (lead ++ flat segs []).length + b'.length ≤ cap ∧ (lead ++ flat segs [] ++ b').length ≤ cap ∧ (dueL lead.length segs).length + 1 ≤ cap ∧ (lead ++ flat segs [] ++ b').length + tk.txt.length ≤ cap ∧
        ∃ (segs2 : List Seg) (last2 : Tk) (x5 x6 x7 : Option T), [some (T.v (.scr ns)), some (.v (.ref 0)), some (.v (.str (lead ++ flat segs [] ++ b' ++ tk.txt))), some (.own (dueL lead.length segs ++ [.tup [.str tk.kind, tk.val, .int (((lead ++ flat segs [] ++ b').length : Nat) : Int)]])), some (.v tk.d), y5, some (.v tk.d), y7] =
          [some (.v (.scr ns)), some (.v (.ref 0)), some (.v (.str (lead ++ flat segs2 []))), some (.own (dueL lead.length segs2)), some (.v last2.d), x5, x6, x7] ∧ Tp ns S1 ∧
          chain none segs2 ∧ last2.ok ∧ (segs2 ≠ [] → lastT none segs2 = some last2) ∧ (flat segs2 []).length ≤ 45 * (i + 1) ∧ segs2.length = i + 1 := by
      intro b' S1 y5 y7 hb' hadj tS1
      have hb2 := blankP_of hb'
      have e1 : (lead ++ flat segs []).length ≤ 3 + 45 * 20 := by rw [List.length_append]; omega
      have e2 : (lead ++ flat segs [] ++ b').length ≤ 6 + 45 * 20 := by rw [List.length_append]; omega
      refine ⟨cap_ge (by omega), cap_ge (by omega), cap_ge (by omega), cap_ge (by omega), segs ++ [(b', tk)], tk, y5, some (.v tk.d), y7, ?_, tS1, ?_, htk, fun _ => lastT_snoc, ?_, ?_⟩
      · rw [flat_snoc, flat_tr (tr := b' ++ (tk.txt ++ [])), due_snoc, List.append_nil, List.length_append, List.length_append]
        simp
      · refine chain_snoc hb2.1 htk hch fun u hu => ?_
        by_cases hs : segs = []
        · subst hs
          cases hu
        · rw [hlast hs] at hu
          cases hu
          rcases hadj with z | z
          · exact absurd z hs
          · exact z
      · rw [flat_snoc, flat_tr, List.length_append, List.length_append, List.length_append]
        have : ([] : List Nat).length = 0 := rfl
        omega
      · rw [List.length_append, hsl]
        rfl
    have c3 : 3 ≤ cap := cap_ge (by decide)
    split
    · refine (parted 198 last tk hlk htk S).mono fun x S1 => ?_
      rintro ⟨rfl, rfl⟩
      simp only [E_some, E_someP, O_some, Ws_some, O_ite, E_bind1, E_bind2, E_lift1, E_lift2, E_lift2b, E_varE, E_varB, E_truthOf, E_asTest, E_itemsR, E_rngR, E_andR, E_andT, E_orT, E_notT, E_condR, E_callR, E_argsR, E_dispR, E_idxT, E_cutR, E_optI, Ws_seq, Ws_set, Ws_setO, Ws_setT, Ws_setI, Ws_aug, Ws_app, Ws_ex, Ws_ret, Ws_if, Ws_for, Ws_frz, execs, exec, sem, sems, Sm.of, Sm.none, fzs, T.fz, List.map_cons, List.map_nil, List.getElem?_cons_succ, List.getElem?_cons_zero, List.set_cons_succ, List.set_cons_zero, Option.some.injEq, T.v.injEq, T.own.injEq, D.int.injEq, D.bl.injEq, D.tup.injEq, D.str.injEq, exists_eq_left', exists_eq_left, Pg.cf, O_add_int, O_sub_int, O_mul_int, O_fdiv_int, O_mod_int, O_lt_int, O_le_int, O_gt_int, O_ge_int, O_eq_int, O_eq_str, O_ne_str, O_int_int, O_abs_int, O_len_str, O_len_own, O_len_lst, O_max2, O_get_ref, O_get_own, O_get_str, O_get_tup, O_get_lst, O_add_str, O_str_int, O_tuple_own, O_aug_add, O_mul_str, O_pow1018, O_in_ch, O_sl_str, O_truth_own, O_truth_bl, O_itemsOf_tup, O_itemsOf_scr, O_list_scr, O_put1, Ws_setTape, ix_0, ix_1, ix_2, ix_3, Ws_appS, decide_eq_true_eq, Bool.not_eq_true', setAll, Bool.false_eq_true, if_false, if_true]
      split
      · split
        · refine ⟨cap_ge (by show 2 ≤ 10000; decide), ?_⟩
          refine draw 198 t (by decide) (by decide) fun q S hq t => ?_
          simp only [E_some, E_someP, O_some, Ws_some, O_ite, E_bind1, E_bind2, E_lift1, E_lift2, E_lift2b, E_varE, E_varB, E_truthOf, E_asTest, E_itemsR, E_rngR, E_andR, E_andT, E_orT, E_notT, E_condR, E_callR, E_argsR, E_dispR, E_idxT, E_cutR, E_optI, Ws_seq, Ws_set, Ws_setO, Ws_setT, Ws_setI, Ws_aug, Ws_app, Ws_ex, Ws_ret, Ws_if, Ws_for, Ws_frz, execs, exec, sem, sems, Sm.of, Sm.none, fzs, T.fz, List.map_cons, List.map_nil, List.getElem?_cons_succ, List.getElem?_cons_zero, List.set_cons_succ, List.set_cons_zero, Option.some.injEq, T.v.injEq, T.own.injEq, D.int.injEq, D.bl.injEq, D.tup.injEq, D.str.injEq, exists_eq_left', exists_eq_left, Pg.cf, O_add_int, O_sub_int, O_mul_int, O_fdiv_int, O_mod_int, O_lt_int, O_le_int, O_gt_int, O_ge_int, O_eq_int, O_eq_str, O_ne_str, O_int_int, O_abs_int, O_len_str, O_len_own, O_len_lst, O_max2, O_get_ref, O_get_own, O_get_str, O_get_tup, O_get_lst, O_add_str, O_str_int, O_tuple_own, O_aug_add, O_mul_str, O_pow1018, O_in_ch, O_sl_str, O_truth_own, O_truth_bl, O_itemsOf_tup, O_itemsOf_scr, O_list_scr, O_put1, Ws_setTape, ix_0, ix_1, ix_2, ix_3, Ws_appS, decide_eq_true_eq, Bool.not_eq_true', setAll, Bool.false_eq_true, if_false, if_true]
          refine pickP (fun d => strP (fun s => blankP s && !s.isEmpty) d = true) (by omega) hq (all_of (by decide)) fun d hd => ?_
          obtain ⟨b2, rfl, hb2⟩ := strP_of hd
          rw [Bool.and_eq_true] at hb2
          have hb2' : b2 ≠ [] := by
            rintro rfl
            exact absurd hb2.2 (by decide)
          simp only [Tk.d, E_some, E_someP, O_some, Ws_some, O_ite, E_bind1, E_bind2, E_lift1, E_lift2, E_lift2b, E_varE, E_varB, E_truthOf, E_asTest, E_itemsR, E_rngR, E_andR, E_andT, E_orT, E_notT, E_condR, E_callR, E_argsR, E_dispR, E_idxT, E_cutR, E_optI, Ws_seq, Ws_set, Ws_setO, Ws_setT, Ws_setI, Ws_aug, Ws_app, Ws_ex, Ws_ret, Ws_if, Ws_for, Ws_frz, execs, exec, sem, sems, Sm.of, Sm.none, fzs, T.fz, List.map_cons, List.map_nil, List.getElem?_cons_succ, List.getElem?_cons_zero, List.set_cons_succ, List.set_cons_zero, Option.some.injEq, T.v.injEq, T.own.injEq, D.int.injEq, D.bl.injEq, D.tup.injEq, D.str.injEq, exists_eq_left', exists_eq_left, Pg.cf, O_add_int, O_sub_int, O_mul_int, O_fdiv_int, O_mod_int, O_lt_int, O_le_int, O_gt_int, O_ge_int, O_eq_int, O_eq_str, O_ne_str, O_int_int, O_abs_int, O_len_str, O_len_own, O_len_lst, O_max2, O_get_ref, O_get_own, O_get_str, O_get_tup, O_get_lst, O_add_str, O_str_int, O_tuple_own, O_aug_add, O_mul_str, O_pow1018, O_in_ch, O_sl_str, O_truth_own, O_truth_bl, O_itemsOf_tup, O_itemsOf_scr, O_list_scr, O_put1, Ws_setTape, ix_0, ix_1, ix_2, ix_3, Ws_appS, decide_eq_true_eq, Bool.not_eq_true', setAll, Bool.false_eq_true, if_false, if_true]
          obtain ⟨g1, g2, g3, g4, g5⟩ := fin b2 S (some (.v (.int i))) (some (.v (.str b2))) hb2.1 (.inr (.inl hb2')) t
          exact ⟨g1, g2, c3, g3, g4, g5⟩
        · rename_i hbn
          simp only [Tk.d, E_some, E_someP, O_some, Ws_some, O_ite, E_bind1, E_bind2, E_lift1, E_lift2, E_lift2b, E_varE, E_varB, E_truthOf, E_asTest, E_itemsR, E_rngR, E_andR, E_andT, E_orT, E_notT, E_condR, E_callR, E_argsR, E_dispR, E_idxT, E_cutR, E_optI, Ws_seq, Ws_set, Ws_setO, Ws_setT, Ws_setI, Ws_aug, Ws_app, Ws_ex, Ws_ret, Ws_if, Ws_for, Ws_frz, execs, exec, sem, sems, Sm.of, Sm.none, fzs, T.fz, List.map_cons, List.map_nil, List.getElem?_cons_succ, List.getElem?_cons_zero, List.set_cons_succ, List.set_cons_zero, Option.some.injEq, T.v.injEq, T.own.injEq, D.int.injEq, D.bl.injEq, D.tup.injEq, D.str.injEq, exists_eq_left', exists_eq_left, Pg.cf, O_add_int, O_sub_int, O_mul_int, O_fdiv_int, O_mod_int, O_lt_int, O_le_int, O_gt_int, O_ge_int, O_eq_int, O_eq_str, O_ne_str, O_int_int, O_abs_int, O_len_str, O_len_own, O_len_lst, O_max2, O_get_ref, O_get_own, O_get_str, O_get_tup, O_get_lst, O_add_str, O_str_int, O_tuple_own, O_aug_add, O_mul_str, O_pow1018, O_in_ch, O_sl_str, O_truth_own, O_truth_bl, O_itemsOf_tup, O_itemsOf_scr, O_list_scr, O_put1, Ws_setTape, ix_0, ix_1, ix_2, ix_3, Ws_appS, decide_eq_true_eq, Bool.not_eq_true', setAll, Bool.false_eq_true, if_false, if_true]
          obtain ⟨g1, g2, g3, g4, g5⟩ := fin b S1 (some (.v (.int i))) (some (.v (.str b))) hb (.inr (.inl hbn)) t
          exact ⟨g1, g2, c3, g3, g4, g5⟩
      · rename_i hp
        simp only [Tk.d, E_some, E_someP, O_some, Ws_some, O_ite, E_bind1, E_bind2, E_lift1, E_lift2, E_lift2b, E_varE, E_varB, E_truthOf, E_asTest, E_itemsR, E_rngR, E_andR, E_andT, E_orT, E_notT, E_condR, E_callR, E_argsR, E_dispR, E_idxT, E_cutR, E_optI, Ws_seq, Ws_set, Ws_setO, Ws_setT, Ws_setI, Ws_aug, Ws_app, Ws_ex, Ws_ret, Ws_if, Ws_for, Ws_frz, execs, exec, sem, sems, Sm.of, Sm.none, fzs, T.fz, List.map_cons, List.map_nil, List.getElem?_cons_succ, List.getElem?_cons_zero, List.set_cons_succ, List.set_cons_zero, Option.some.injEq, T.v.injEq, T.own.injEq, D.int.injEq, D.bl.injEq, D.tup.injEq, D.str.injEq, exists_eq_left', exists_eq_left, Pg.cf, O_add_int, O_sub_int, O_mul_int, O_fdiv_int, O_mod_int, O_lt_int, O_le_int, O_gt_int, O_ge_int, O_eq_int, O_eq_str, O_ne_str, O_int_int, O_abs_int, O_len_str, O_len_own, O_len_lst, O_max2, O_get_ref, O_get_own, O_get_str, O_get_tup, O_get_lst, O_add_str, O_str_int, O_tuple_own, O_aug_add, O_mul_str, O_pow1018, O_in_ch, O_sl_str, O_truth_own, O_truth_bl, O_itemsOf_tup, O_itemsOf_scr, O_list_scr, O_put1, Ws_setTape, ix_0, ix_1, ix_2, ix_3, Ws_appS, decide_eq_true_eq, Bool.not_eq_true', setAll, Bool.false_eq_true, if_false, if_true]
        obtain ⟨g1, g2, g3, g4, g5⟩ := fin b S1 (some (.v (.int i))) (some (.v (.str b))) hb (.inr (.inr (by simpa using hp))) t
        exact ⟨g1, g2, c3, g3, g4, g5⟩
    · rename_i he
      have hs : segs = [] := by
        cases segs with
        | nil => rfl
        | cons a l => exact absurd rfl he
      simp only [Tk.d, E_some, E_someP, O_some, Ws_some, O_ite, E_bind1, E_bind2, E_lift1, E_lift2, E_lift2b, E_varE, E_varB, E_truthOf, E_asTest, E_itemsR, E_rngR, E_andR, E_andT, E_orT, E_notT, E_condR, E_callR, E_argsR, E_dispR, E_idxT, E_cutR, E_optI, Ws_seq, Ws_set, Ws_setO, Ws_setT, Ws_setI, Ws_aug, Ws_app, Ws_ex, Ws_ret, Ws_if, Ws_for, Ws_frz, execs, exec, sem, sems, Sm.of, Sm.none, fzs, T.fz, List.map_cons, List.map_nil, List.getElem?_cons_succ, List.getElem?_cons_zero, List.set_cons_succ, List.set_cons_zero, Option.some.injEq, T.v.injEq, T.own.injEq, D.int.injEq, D.bl.injEq, D.tup.injEq, D.str.injEq, exists_eq_left', exists_eq_left, Pg.cf, O_add_int, O_sub_int, O_mul_int, O_fdiv_int, O_mod_int, O_lt_int, O_le_int, O_gt_int, O_ge_int, O_eq_int, O_eq_str, O_ne_str, O_int_int, O_abs_int, O_len_str, O_len_own, O_len_lst, O_max2, O_get_ref, O_get_own, O_get_str, O_get_tup, O_get_lst, O_add_str, O_str_int, O_tuple_own, O_aug_add, O_mul_str, O_pow1018, O_in_ch, O_sl_str, O_truth_own, O_truth_bl, O_itemsOf_tup, O_itemsOf_scr, O_list_scr, O_put1, Ws_setTape, ix_0, ix_1, ix_2, ix_3, Ws_appS, decide_eq_true_eq, Bool.not_eq_true', setAll, Bool.false_eq_true, if_false, if_true]
      obtain ⟨g1, g2, g3, g4, g5⟩ := fin b S (some (.v (.int i))) (some (.v (.str b))) hb (.inl hs) t
      exact ⟨g1, g2, c3, g3, g4, g5⟩
  · obtain ⟨segs, last, x5, x6, x7, rfl, t, hch, hlk, hlast, hlen, hsl⟩ := j'
    simp only [E_some, E_someP, O_some, Ws_some, O_ite, E_bind1, E_bind2, E_lift1, E_lift2, E_lift2b, E_varE, E_varB, E_truthOf, E_asTest, E_itemsR, E_rngR, E_andR, E_andT, E_orT, E_notT, E_condR, E_callR, E_argsR, E_dispR, E_idxT, E_cutR, E_optI, Ws_seq, Ws_set, Ws_setO, Ws_setT, Ws_setI, Ws_aug, Ws_app, Ws_ex, Ws_ret, Ws_if, Ws_for, Ws_frz, execs, exec, sem, sems, Sm.of, Sm.none, fzs, T.fz, List.map_cons, List.map_nil, List.getElem?_cons_succ, List.getElem?_cons_zero, List.set_cons_succ, List.set_cons_zero, Option.some.injEq, T.v.injEq, T.own.injEq, D.int.injEq, D.bl.injEq, D.tup.injEq, D.str.injEq, exists_eq_left', exists_eq_left, Pg.cf, O_add_int, O_sub_int, O_mul_int, O_fdiv_int, O_mod_int, O_lt_int, O_le_int, O_gt_int, O_ge_int, O_eq_int, O_eq_str, O_ne_str, O_int_int, O_abs_int, O_len_str, O_len_own, O_len_lst, O_max2, O_get_ref, O_get_own, O_get_str, O_get_tup, O_get_lst, O_add_str, O_str_int, O_tuple_own, O_aug_add, O_mul_str, O_pow1018, O_in_ch, O_sl_str, O_truth_own, O_truth_bl, O_itemsOf_tup, O_itemsOf_scr, O_list_scr, O_put1, Ws_setTape, ix_0, ix_1, ix_2, ix_3, Ws_appS, decide_eq_true_eq, Bool.not_eq_true', setAll, Bool.false_eq_true, if_false, if_true]
    refine ⟨cap_ge (by show 3 ≤ 10000; decide), ?_⟩
    refine draw 198 t (by decide) (by decide) fun q S hq t => ?_
    simp only [E_some, E_someP, O_some, Ws_some, O_ite, E_bind1, E_bind2, E_lift1, E_lift2, E_lift2b, E_varE, E_varB, E_truthOf, E_asTest, E_itemsR, E_rngR, E_andR, E_andT, E_orT, E_notT, E_condR, E_callR, E_argsR, E_dispR, E_idxT, E_cutR, E_optI, Ws_seq, Ws_set, Ws_setO, Ws_setT, Ws_setI, Ws_aug, Ws_app, Ws_ex, Ws_ret, Ws_if, Ws_for, Ws_frz, execs, exec, sem, sems, Sm.of, Sm.none, fzs, T.fz, List.map_cons, List.map_nil, List.getElem?_cons_succ, List.getElem?_cons_zero, List.set_cons_succ, List.set_cons_zero, Option.some.injEq, T.v.injEq, T.own.injEq, D.int.injEq, D.bl.injEq, D.tup.injEq, D.str.injEq, exists_eq_left', exists_eq_left, Pg.cf, O_add_int, O_sub_int, O_mul_int, O_fdiv_int, O_mod_int, O_lt_int, O_le_int, O_gt_int, O_ge_int, O_eq_int, O_eq_str, O_ne_str, O_int_int, O_abs_int, O_len_str, O_len_own, O_len_lst, O_max2, O_get_ref, O_get_own, O_get_str, O_get_tup, O_get_lst, O_add_str, O_str_int, O_tuple_own, O_aug_add, O_mul_str, O_pow1018, O_in_ch, O_sl_str, O_truth_own, O_truth_bl, O_itemsOf_tup, O_itemsOf_scr, O_list_scr, O_put1, Ws_setTape, ix_0, ix_1, ix_2, ix_3, Ws_appS, decide_eq_true_eq, Bool.not_eq_true', setAll, Bool.false_eq_true, if_false, if_true]
    refine pickP (fun d => strP blankP d = true) (by omega) hq (all_of (by decide)) fun d hd => ?_
    obtain ⟨tr, rfl, htr⟩ := strP_of hd
    have htr := blankP_of htr
    simp only [E_some, E_someP, O_some, Ws_some, O_ite, E_bind1, E_bind2, E_lift1, E_lift2, E_lift2b, E_varE, E_varB, E_truthOf, E_asTest, E_itemsR, E_rngR, E_andR, E_andT, E_orT, E_notT, E_condR, E_callR, E_argsR, E_dispR, E_idxT, E_cutR, E_optI, Ws_seq, Ws_set, Ws_setO, Ws_setT, Ws_setI, Ws_aug, Ws_app, Ws_ex, Ws_ret, Ws_if, Ws_for, Ws_frz, execs, exec, sem, sems, Sm.of, Sm.none, fzs, T.fz, List.map_cons, List.map_nil, List.getElem?_cons_succ, List.getElem?_cons_zero, List.set_cons_succ, List.set_cons_zero, Option.some.injEq, T.v.injEq, T.own.injEq, D.int.injEq, D.bl.injEq, D.tup.injEq, D.str.injEq, exists_eq_left', exists_eq_left, Pg.cf, O_add_int, O_sub_int, O_mul_int, O_fdiv_int, O_mod_int, O_lt_int, O_le_int, O_gt_int, O_ge_int, O_eq_int, O_eq_str, O_ne_str, O_int_int, O_abs_int, O_len_str, O_len_own, O_len_lst, O_max2, O_get_ref, O_get_own, O_get_str, O_get_tup, O_get_lst, O_add_str, O_str_int, O_tuple_own, O_aug_add, O_mul_str, O_pow1018, O_in_ch, O_sl_str, O_truth_own, O_truth_bl, O_itemsOf_tup, O_itemsOf_scr, O_list_scr, O_put1, Ws_setTape, ix_0, ix_1, ix_2, ix_3, Ws_appS, decide_eq_true_eq, Bool.not_eq_true', setAll, Bool.false_eq_true, if_false, if_true]
    have hl : (lead ++ flat segs [] ++ tr).length ≤ 9000 := by
      rw [List.length_append, List.length_append]
      omega
    refine ⟨cap_ge (by rw [List.length_append] at hl; omega), ?_⟩
    obtain ⟨segs2, tr2, e1, e2, e3⟩ := absorb hld.1 htr.1 hch
    rw [e1]
    rw [e1] at hl
    refine (tokens_of 196 (by omega) e2).mono fun x S' => ?_
    rintro ⟨rfl, rfl⟩
    rw [e3]
    obtain ⟨o1, o2, o3⟩ := due_ok hch (n := lead.length) (by omega)
    obtain ⟨s, hs⟩ := repr_tup o1 (by omega) (by omega)
    have hr : P1.run .repr (.v (.tup (dueL lead.length segs))) = some (.v (.str s)) := by
      show (reprD (.tup (dueL lead.length segs))).map (fun s => T.v (.str s)) = _
      rw [hs]
      rfl
    rw [hr]
    simp only [E_some, E_someP, O_some, Ws_some, O_ite, E_bind1, E_bind2, E_lift1, E_lift2, E_lift2b, E_varE, E_varB, E_truthOf, E_asTest, E_itemsR, E_rngR, E_andR, E_andT, E_orT, E_notT, E_condR, E_callR, E_argsR, E_dispR, E_idxT, E_cutR, E_optI, Ws_seq, Ws_set, Ws_setO, Ws_setT, Ws_setI, Ws_aug, Ws_app, Ws_ex, Ws_ret, Ws_if, Ws_for, Ws_frz, execs, exec, sem, sems, Sm.of, Sm.none, fzs, T.fz, List.map_cons, List.map_nil, List.getElem?_cons_succ, List.getElem?_cons_zero, List.set_cons_succ, List.set_cons_zero, Option.some.injEq, T.v.injEq, T.own.injEq, D.int.injEq, D.bl.injEq, D.tup.injEq, D.str.injEq, exists_eq_left', exists_eq_left, Pg.cf, O_add_int, O_sub_int, O_mul_int, O_fdiv_int, O_mod_int, O_lt_int, O_le_int, O_gt_int, O_ge_int, O_eq_int, O_eq_str, O_ne_str, O_int_int, O_abs_int, O_len_str, O_len_own, O_len_lst, O_max2, O_get_ref, O_get_own, O_get_str, O_get_tup, O_get_lst, O_add_str, O_str_int, O_tuple_own, O_aug_add, O_mul_str, O_pow1018, O_in_ch, O_sl_str, O_truth_own, O_truth_bl, O_itemsOf_tup, O_itemsOf_scr, O_list_scr, O_put1, Ws_setTape, ix_0, ix_1, ix_2, ix_3, Ws_appS, decide_eq_true_eq, Bool.not_eq_true', setAll, Bool.false_eq_true, if_false, if_true]
end Law
open PySem PySem.W PyProof.Rows M3
set_option maxHeartbeats 0 in
open_top hd77 for PySem.Challenge.rw_indoubt_k77_tokens_of_a_text
set_option maxHeartbeats 0 in
theorem PySem.Challenge.cw_indoubt_k77_tokens_of_a_text_holds : PySem.Challenge.rw_indoubt_k77_tokens_of_a_text.Holds :=
  hd77 (by
  k_fill
  refine M3.row_of (l := PySem.Challenge.rw_indoubt_k77_tokens_of_a_text) (n := 63) (k := 200) (f := 14) (P := Law.pg) (x := "_law_script") rfl (by decide) rfl (by decide) (fun w h Y => PySem.W.kIn_of Y) ?F Law.law_true
  case F =>
    intro w mg fa h KX N hmg
    refine' Law.all_mk KX N hmg (raw_mk ?a0 ?l0 ?c0 ?k0) (raw_mk ?a1 ?l1 ?c1 ?k1) (raw_mk ?a2 ?l2 ?c2 ?k2) (raw_mk ?a3 ?l3 ?c3 ?k3) (raw_mk ?a4 ?l4 ?c4 ?k4) (raw_mk ?a5 ?l5 ?c5 ?k5) (raw_mk ?a6 ?l6 ?c6 ?k6) (raw_mk ?a7 ?l7 ?c7 ?k7) (raw_mk ?a8 ?l8 ?c8 ?k8) (raw_mk ?a9 ?l9 ?c9 ?k9) (raw_mk ?a10 ?l10 ?c10 ?k10) (raw_mk ?a11 ?l11 ?c11 ?k11) (raw_mk ?a12 ?l12 ?c12 ?k12) (raw_mk ?a13 ?l13 ?c13 ?k13) (raw_mk ?a14 ?l14 ?c14 ?k14) (rawc_str ?g0) (rawc_str ?g1) (rawc_str ?g2) (rawc_tup ?g3 ?h3 ?z3 ?o3) (rawc_int ?g4) (rawc_int ?g5) (rawc_int ?g6) (rawc_int ?g7) ⟨?b0, ?b1, ?b2, ?b3, ?b4, ?b5, ?b6, ?b7, ?b8, ?b9, ?b10, trivial⟩
    (case a0 => k_is)
    (case l0 => k_is)
    (case c0 => k_is)
    (case k0 => k_is)
    (case a1 => k_is)
    (case l1 => k_is)
    (case c1 => k_is)
    (case k1 => k_is)
    (case a2 => k_is)
    (case l2 => k_is)
    (case c2 => k_is)
    (case k2 => k_is)
    (case a3 => k_is)
    (case l3 => k_is)
    (case c3 => k_is)
    (case k3 => k_is)
    (case a4 => k_is)
    (case l4 => k_is)
    (case c4 => k_is)
    (case k4 => k_is)
    (case a5 => k_is)
    (case l5 => k_is)
    (case c5 => k_is)
    (case k5 => k_is)
    (case a6 => k_is)
    (case l6 => k_is)
    (case c6 => k_is)
    (case k6 => k_is)
    (case a7 => k_is)
    (case l7 => k_is)
    (case c7 => k_is)
    (case k7 => k_is)
    (case a8 => k_is)
    (case l8 => k_is)
    (case c8 => k_is)
    (case k8 => k_is)
    (case a9 => k_is)
    (case l9 => k_is)
    (case c9 => k_is)
    (case k9 => k_is)
    (case a10 => k_is)
    (case l10 => k_is)
    (case c10 => k_is)
    (case k10 => k_is)
    (case a11 => k_is)
    (case l11 => k_is)
    (case c11 => k_is)
    (case k11 => k_is)
    (case a12 => k_is)
    (case l12 => k_is)
    (case c12 => k_is)
    (case k12 => k_is)
    (case a13 => k_is)
    (case l13 => k_is)
    (case c13 => k_is)
    (case k13 => k_is)
    (case a14 => k_is)
    (case l14 => k_is)
    (case c14 => k_is)
    (case k14 => k_is)
    (case g0 => k_is)
    (case g1 => k_is)
    (case g2 => k_is)
    (case g3 => k_is)
    (case h3 => k_is)
    (case g4 => k_is)
    (case g5 => k_is)
    (case g6 => k_is)
    (case g7 => k_is)
    (case b0 => show PySem.W.nsIn _ mainGlobals _ = some none; k_is)
    (case b1 => show PySem.W.nsIn _ mainGlobals _ = some none; k_is)
    (case b2 => show PySem.W.nsIn _ mainGlobals _ = some none; k_is)
    (case b3 => show PySem.W.nsIn _ mainGlobals _ = some none; k_is)
    (case b4 => show PySem.W.nsIn _ mainGlobals _ = some none; k_is)
    (case b5 => show PySem.W.nsIn _ mainGlobals _ = some none; k_is)
    (case b6 => show PySem.W.nsIn _ mainGlobals _ = some none; k_is)
    (case b7 => show PySem.W.nsIn _ mainGlobals _ = some none; k_is)
    (case b8 => show PySem.W.nsIn _ mainGlobals _ = some none; k_is)
    (case b9 => show PySem.W.nsIn _ mainGlobals _ = some none; k_is)
    (case b10 => show PySem.W.nsIn _ mainGlobals _ = some none; k_is)
    (case z3 => decide)
    (case o3 => first | rfl | decide +kernel))
