import PyProof.Rows.All
import Wide.All
import OpenK.AllK
import Wide.FinOn
import HandS.ForMost
import HandS.ForExc
import HandS.Flow
import HandS.Style
import HandS.Deep
import HandS.Conv
import HandS.IsInst
import HandS.TupAny
import HandS.SortInts
import HandS.SortRule
import HandS.SetFor
import HandS.Walk
import HandS.CallSlots
import KE.KStateDown
import HandS.Defaults
import HandS.Ends
import HandS.Head0
import HandS.Head1
import HandS.Head2
import HandS.HeadEnd
import HandS.HeadHook1
import HandS.HeadHook2
import PySem.Challenge.RW_trimmedmeans_k20_whole_sizes
set_option Elab.async false
set_option linter.all false
set_option maxRecDepth 100000
set_option maxHeartbeats 0
/-! The interpreter: a pure reading of the model's own trees. Lists are values; a list that nobody else holds (own) may be changed. -/
namespace TM
open PySem

abbrev D := PyData
/-- the few objects that live on: the draws, the script -/
inductive WO where
  | drw (ns : List Int) (c : Int)
  | scr (ns : List Int)
  | orc (o : Nat → Int → Int)
abbrev Wd := List WO
/-- a value as it is held: data that never change; a list that nobody else holds; a list that a slot owns, looked at -/
inductive RV where
  | val (d : D)
  | own (ds : List D)
  | bor (ds : List D)
inductive R (α : Type) where
  | ok (a : α) (w : Wd)
  | exc (c : Str) (w : Wd)
  | bad
def R.bind {α β : Type} (m : R α) (f : α → Wd → R β) : R β := match m with
  | .ok a w => f a w
  | .exc c w => .exc c w
  | .bad => .bad
def R.of {α : Type} (o : Option α) (w : Wd) : R α := match o with
  | some a => .ok a w
  | none => .bad
@[simp] theorem R.bind_ok {α β : Type} (a : α) (w : Wd) (f : α → Wd → R β) : (R.ok a w).bind f = f a w := rfl
@[simp] theorem R.bind_bad {α β : Type} (f : α → Wd → R β) : (R.bad : R α).bind f = .bad := rfl
@[simp] theorem R.bind_exc {α β : Type} (c : Str) (w : Wd) (f : α → Wd → R β) : (R.exc c w : R α).bind f = .exc c w := rfl
@[simp] theorem R.of_some {α : Type} (a : α) (w : Wd) : R.of (some a) w = .ok a w := rfl
@[simp] theorem R.of_none {α : Type} (w : Wd) : R.of (none : Option α) w = .bad := rfl

def RV.dat : RV → D
  | .val d => d
  | .own ds => .list ds
  | .bor ds => .list ds
def RV.lst? : RV → Option (List D)
  | .val (.list ds) => some ds
  | .own ds => some ds
  | .bor ds => some ds
  | _ => none
def RV.isBor : RV → Bool
  | .bor _ => true
  | _ => false
@[simp] theorem dat_val (d : D) : (RV.val d).dat = d := rfl
@[simp] theorem dat_own (d : List D) : (RV.own d).dat = .list d := rfl
@[simp] theorem dat_bor (d : List D) : (RV.bor d).dat = .list d := rfl
@[simp] theorem lst_val (d : List D) : (RV.val (.list d)).lst? = some d := rfl
@[simp] theorem lst_own (d : List D) : (RV.own d).lst? = some d := rfl
@[simp] theorem lst_bor (d : List D) : (RV.bor d).lst? = some d := rfl
@[simp] theorem lst_int (i : Int) : (RV.val (.int i)).lst? = none := rfl
@[simp] theorem lst_str (i : Str) : (RV.val (.str i)).lst? = none := rfl
@[simp] theorem lst_tup (d : List D) : (RV.val (.tuple d)).lst? = none := rfl
@[simp] theorem lst_bool (d : Bool) : (RV.val (.bool d)).lst? = none := rfl
@[simp] theorem lst_none : (RV.val .none).lst? = none := rfl
@[simp] theorem isBor_val (d : D) : (RV.val d).isBor = false := rfl
@[simp] theorem isBor_own (d : List D) : (RV.own d).isBor = false := rfl
@[simp] theorem isBor_bor (d : List D) : (RV.bor d).isBor = true := rfl

def cap : Nat := 100000
/-- data that may be compared: depth below n, no dict -/
def okD : Nat → D → Bool
  | _, .none => true
  | _, .bool _ => true
  | _, .int _ => true
  | _, .str x => PyData.strOk x
  | n + 1, .list xs => xs.all (okD n)
  | n + 1, .tuple xs => xs.all (okD n)
  | _, _ => false
/-- no list within -/
def noL : Nat → D → Bool
  | _, .none => true
  | _, .bool _ => true
  | _, .int _ => true
  | _, .str _ => true
  | n + 1, .tuple xs => xs.all (noL n)
  | _, _ => false
def flatD : D → Bool
  | .none => true
  | .bool _ => true
  | .int _ => true
  | .str _ => true
  | _ => false
def asInt : D → Option Int
  | .int i => some i
  | _ => none
def asInts : List D → Option (List Int)
  | [] => some []
  | .int i :: r => (asInts r).map (i :: ·)
  | _ :: _ => none
def asPairs : List D → Option (List (Int × Int))
  | [] => some []
  | .tuple [.int i, .int j] :: r => (asPairs r).map ((i, j) :: ·)
  | _ :: _ => none
def asBools : List D → Option (List Bool)
  | [] => some []
  | .bool i :: r => (asBools r).map (i :: ·)
  | _ :: _ => none
/-- insertion sort -/
def ins (x : Int) : List Int → List Int
  | [] => [x]
  | y :: r => if x ≤ y then x :: y :: r else y :: ins x r
def srt : List Int → List Int
  | [] => []
  | x :: r => ins x (srt r)
def ple (x y : Int × Int) : Bool := decide (x.1 < y.1) || (decide (x.1 = y.1) && decide (x.2 ≤ y.2))
def insP (x : Int × Int) : List (Int × Int) → List (Int × Int)
  | [] => [x]
  | y :: r => if ple x y then x :: y :: r else y :: insP x r
def srtP : List (Int × Int) → List (Int × Int)
  | [] => []
  | x :: r => insP x (srtP r)
def minL : List Int → Option Int
  | [] => none
  | x :: r => match minL r with
    | none => some x
    | some m => some (if x ≤ m then x else m)
def maxL : List Int → Option Int
  | [] => none
  | x :: r => match maxL r with
    | none => some x
    | some m => some (if m ≤ x then x else m)
/-- the place of the first one that is equal -/
def findD (d : D) : List D → Option Nat
  | [] => none
  | x :: r => if PyData.eqv x d then some 0 else (findD d r).map (· + 1)
def sIx (n d : Nat) : Option Int → Nat := HT.sIx n d
def cut {α : Type} (xs : List α) (lo hi : Option Int) : List α := (xs.drop (HT.sIx xs.length 0 lo)).take (HT.sIx xs.length xs.length hi - HT.sIx xs.length 0 lo)

def mulOk (i j : Int) : Bool := (decide (-(2 ^ 64) < i) && decide (i < 2 ^ 64)) || (decide (-(2 ^ 64) < j) && decide (j < 2 ^ 64))
def divOk (j : Int) : Bool := decide (j ≠ 0) && decide (j.natAbs < 1073741824)
def powOk (i j : Int) : Bool := decide (0 ≤ j) && decide (j ≤ 1000000) && decide (i.natAbs < 2 ^ 64)

def addL (a b : RV) : Option RV := match a.lst?, b.lst? with
  | some xs, some ys => if xs.length + ys.length ≤ cap then some (.own (xs ++ ys)) else none
  | _, _ => none
def repL (a : RV) (k : Int) : Option RV := match a.lst? with
  | some xs => if decide (-(2 ^ 63) ≤ k) && decide (k < 2 ^ 63) && decide (xs.length * k.toNat ≤ cap) then some (.own (List.replicate k.toNat xs).flatten) else none
  | none => none
def binop (op : Operator) (a b : RV) : Option RV := match op, a, b with
  | .Add, .val (.int i), .val (.int j) => some (.val (.int (i + j)))
  | .Add, .val (.str x), .val (.str y) => if x.length + y.length ≤ cap then some (.val (.str (x ++ y))) else none
  | .Add, .val (.tuple xs), .val (.tuple ys) => if xs.length + ys.length ≤ cap then some (.val (.tuple (xs ++ ys))) else none
  | .Add, a, b => addL a b
  | .Sub, .val (.int i), .val (.int j) => some (.val (.int (i - j)))
  | .Mult, .val (.int i), .val (.int j) => if mulOk i j then some (.val (.int (i * j))) else none
  | .Mult, a, .val (.int k) => repL a k
  | .FloorDiv, .val (.int i), .val (.int j) => if divOk j then some (.val (.int (i.fdiv j))) else none
  | .Mod, .val (.int i), .val (.int j) => if decide (j ≠ 0) then some (.val (.int (i.fmod j))) else none
  | .Pow, .val (.int i), .val (.int j) => if powOk i j then some (.val (.int (i ^ j.toNat))) else none
  | _, _, _ => none
def eqvOk (a b : D) : Bool := okD 8 a && okD 8 b
def ltInts (a b : RV) : Option Bool := none
def inOp (a b : RV) : Option Bool := match b with
  | .val (.tuple ds) => if flatD a.dat && ds.all flatD then some (ds.any fun z => PyData.eqv z a.dat) else none
  | .val (.str y) => none
  | b => match b.lst? with
    | some ds => if okD 7 a.dat && okD 8 (.list ds) then some (ds.any fun z => PyData.eqv z a.dat) else none
    | none => none
def isOp (a b : RV) : Option Bool := match a, b with
  | .val .none, .val .none => some true
  | .val (.bool x), .val (.bool y) => some (decide (x = y))
  | .val (.bool _), .val .none => some false
  | .val (.int _), .val .none => some false
  | .val (.str _), .val .none => some false
  | .val (.tuple _), .val .none => some false
  | .val (.list _), .val .none => some false
  | .own _, .val .none => some false
  | .bor _, .val .none => some false
  | _, _ => none
def cmpop (op : CmpOp) (a b : RV) : Option Bool := match op with
  | .Eq => if eqvOk a.dat b.dat then some (PyData.eqv a.dat b.dat) else none
  | .NotEq => if eqvOk a.dat b.dat then some (!PyData.eqv a.dat b.dat) else none
  | .Lt => match a, b with
    | .val (.int i), .val (.int j) => some (decide (i < j))
    | _, _ => none
  | .LtE => match a, b with
    | .val (.int i), .val (.int j) => some (decide (i ≤ j))
    | _, _ => none
  | .Gt => match a, b with
    | .val (.int i), .val (.int j) => some (decide (j < i))
    | _, _ => none
  | .GtE => match a, b with
    | .val (.int i), .val (.int j) => some (decide (j ≤ i))
    | _, _ => none
  | .In => inOp a b
  | .NotIn => (inOp a b).map (!·)
  | .Is => isOp a b
  | .IsNot => (isOp a b).map (!·)
def unop (op : UnaryOp) (a : RV) : Option RV := match op, a with
  | .USub, .val (.int i) => some (.val (.int (-i)))
  | .Not, .val (.bool b) => some (.val (.bool (!b)))
  | _, _ => none
/-- a[i] -/
def ixop (a : RV) (b : RV) : Option RV := match b with
  | .val (.int i) => match a with
    | .val (.tuple ds) => (L2.atI ds i).map .val
    | .val (.str z) => none
    | a => match a.lst? with
      | some ds => (L2.atI ds i).map .val
      | none => none
  | _ => none
/-- a[lo:hi] -/
def slop (a : RV) (lo hi : Option Int) : Option RV := match a with
  | .val (.tuple ds) => some (.val (.tuple (cut ds lo hi)))
  | .val (.str z) => if z.length ≤ cap then some (.val (.str (L2.cutS z lo hi))) else none
  | a => match a.lst? with
    | some ds => some (.own (cut ds lo hi))
    | none => none
/-- the builtins -/
inductive Blt where
  | len | abs | sum | min | max | sorted | list | tuple | str | int | all | any | range | isinst
  deriving DecidableEq
def bltTab : List (Str × Blt) := [("len", .len), ("abs", .abs), ("sum", .sum), ("min", .min), ("max", .max), ("sorted", .sorted), ("list", .list), ("tuple", .tuple), ("str", .str), ("int", .int), ("all", .all), ("any", .any), ("range", .range), ("isinstance", .isinst)]
def sortOp (ds : List D) : Option RV := match asInts ds with
  | some ns => some (.own ((srt ns).map .int))
  | none => match asPairs ds with
    | some ps => some (.own ((srtP ps).map fun p => .tuple [.int p.1, .int p.2]))
    | none => none
def bltop (b : Blt) (vs : List RV) : Option RV := match b, vs with
  | .len, [.val (.tuple ds)] => some (.val (.int ds.length))
  | .len, [.val (.str z)] => if z.length ≤ cap then some (.val (.int z.length)) else none
  | .len, [a] => a.lst?.map fun ds => .val (.int ds.length)
  | .abs, [.val (.int i)] => some (.val (.int (if i < 0 then -i else i)))
  | .sum, [a] => (a.lst?.bind asInts).map fun ns => .val (.int ns.sum)
  | .min, [a] => ((a.lst?.bind asInts).bind minL).map fun m => .val (.int m)
  | .max, [a] => ((a.lst?.bind asInts).bind maxL).map fun m => .val (.int m)
  | .min, [.val (.int i), .val (.int j)] => some (.val (.int (if j < i then j else i)))
  | .max, [.val (.int i), .val (.int j)] => some (.val (.int (if j > i then j else i)))
  | .sorted, [a] => a.lst?.bind sortOp
  | .list, [.val (.tuple ds)] => some (.own ds)
  | .list, [a] => a.lst?.map .own
  | .tuple, [.val (.tuple ds)] => some (.val (.tuple ds))
  | .tuple, [a] => a.lst?.map fun ds => .val (.tuple ds)
  | .str, [.val (.int i)] => if i.natAbs.log2 < 1920 then some (.val (.str (toString i))) else none
  | .all, [a] => (a.lst?.bind asBools).map fun bs => .val (.bool (bs.all id))
  | .any, [a] => (a.lst?.bind asBools).map fun bs => .val (.bool (bs.any id))
  | _, _ => none
/-- a value's type -/
def tyStr : RV → Option String
  | .val (.int _) => some "int"
  | .val (.bool _) => some "bool"
  | .val .none => some "NoneType"
  | .val (.str _) => some "str"
  | .val (.tuple _) => some "tuple"
  | .val (.list _) => some "list"
  | .own _ => some "list"
  | .bor _ => some "list"
  | .val (.dict _) => none
def tyTab : List (Str × String) := [("int", "int"), ("bool", "bool"), ("list", "list"), ("tuple", "tuple"), ("str", "str")]
/-- isinstance(x, T) -/
def isTy (a : RV) (t : Str) : Option Bool := match tyStr a with
  | none => none
  | some s => (tyTab.lookup t).map fun T => s == T || (s == "bool" && T == "int")
/-- methods of lists and texts, as values -/
def mtop (m : Str) (a : RV) (vs : List RV) : Option RV :=
  if m = "index" then (match a.lst?, vs with
    | some ds, [b] => if flatD b.dat && ds.all flatD then (findD b.dat ds).map (fun (j : Nat) => RV.val (.int (j : Int))) else none
    | _, _ => none)
  else none

/-- range(..) as a list -/
def rangeL (a b c : Int) : Option (List D) :=
  if decide (0 < c) && decide (c < 1000000) && decide (-1000000 ≤ a) && decide (a ≤ 1000000) && decide (-1000000 ≤ b) && decide (b ≤ 1000000)
  then some ((List.range ((b - a + c - 1) / c).toNat).map fun (i : Nat) => .int (a + (i : Int) * c)) else none
def rangeA : List RV → Option (List D)
  | [.val (.int b)] => rangeL 0 b 1
  | [.val (.int a), .val (.int b)] => rangeL a b 1
  | [.val (.int a), .val (.int b), .val (.int c)] => rangeL a b c
  | _ => none

abbrev Tab := Str → List D → Wd → R RV
abbrev Sl := List (Option RV)
/-- what stands around: the defs' answers, the names of the defs, the module's constants; a def's own: its names by slot, the names whose lists it may change -/
structure Cn where
  T : Tab
  dfn : Str → Bool
  cst : Str → Option D
  N : List Str
  mt : List Str
def idx : List Str → Str → Option Nat
  | [], _ => none
  | y :: r, x => if y = x then some 0 else (idx r x).map (· + 1)

abbrev EvF := Expr → Wd → R RV
def evsW (f : EvF) : List Expr → Wd → R (List RV)
  | [], w => .ok [] w
  | e :: r, w => (f e w).bind fun v w => (evsW f r w).bind fun vs w => .ok (v :: vs) w
def andW (f : EvF) : List Expr → Wd → R RV
  | [], _ => .bad
  | e :: r, w => (f e w).bind fun v w => match v with
    | .val (.bool true) => (match r with | [] => .ok (.val (.bool true)) w | _ :: _ => andW f r w)
    | .val (.bool false) => .ok (.val (.bool false)) w
    | _ => .bad
def orW (f : EvF) : List Expr → Wd → R RV
  | [], _ => .bad
  | e :: r, w => (f e w).bind fun v w => match v with
    | .val (.bool false) => (match r with | [] => .ok (.val (.bool false)) w | _ :: _ => orW f r w)
    | .val (.bool true) => .ok (.val (.bool true)) w
    | _ => .bad
def optW (f : EvF) : Option Expr → Wd → R (Option Int)
  | none, w => .ok none w
  | some e, w => (f e w).bind fun v w => match v with
    | .val (.int i) => .ok (some i) w
    | _ => .bad
/-- no looked-at list among them -/
def datS : List RV → Option (List D)
  | [] => some []
  | .val d :: r => (datS r).map (d :: ·)
  | .own ds :: r => (datS r).map (.list ds :: ·)
  | .bor _ :: _ => none
def noLRV : RV → Bool
  | .val d => noL 8 d
  | .own ds => ds.all (noL 8)
  | .bor _ => false
def frz : RV → Option D
  | .val d => some d
  | .own ds => some (.list ds)
  | .bor _ => none
def boolOf : RV → Option Bool
  | .val (.bool b) => some b
  | _ => none
/-- the answer of a def; a looked-at list must not come back in it -/
def callT (T : Tab) (f : Str) (vs : List RV) (w : Wd) : R RV :=
  (T f (vs.map RV.dat) w).bind fun r w => if vs.any RV.isBor && !noLRV r then .bad else .ok r w
def compL (f : D → Wd → R (Option D)) : List D → Wd → R (List D)
  | [], w => .ok [] w
  | d :: r, w => (f d w).bind fun o w => (compL f r w).bind fun ds w => .ok (match o with | some x => x :: ds | none => ds) w
/-- a comprehension's target takes a value -/
def tgtS (N : List Str) : List Expr → List D → Sl → Option Sl
  | [], ds, s => (match ds with | [] => some s | _ => none)
  | e :: r, ds, s => match e, ds with
    | .Name x _, d :: ds => (match idx N x with
      | some i => tgtS N r ds (s.set i (some (.val d)))
      | none => none)
    | _, _ => none
def tgt (N : List Str) (e : Expr) (d : D) (s : Sl) : Option Sl := match e with
  | .Name x _ => (match idx N x with
    | some i => some (s.set i (some (.val d)))
    | none => none)
  | .Tuple es _ _ => (match d with
    | .tuple ds => tgtS N es ds s
    | _ => none)
  | _ => none
def wipeS (s : Sl) : List Nat → Sl
  | [] => s
  | i :: r => (wipeS s r).set i none
/-- the block's own names, with their slots -/
def ownOf (N : List Str) (sc : Scope) : List (Str × Nat) := sc.names.filterMap fun p => if p.2 = NameKind.local ∨ p.2 = NameKind.cell then (idx N p.1).map fun i => (p.1, i) else none

def cstW (c : Const) (w : Wd) : R RV := match c with
  | .none => .ok (.val .none) w
  | .bool b => .ok (.val (.bool b)) w
  | .int i => .ok (.val (.int i)) w
  | .str x => .ok (.val (.str x)) w
  | _ => .bad
def slotW (o : Option (Option RV)) (w : Wd) : R RV := match o with
  | some (some (.val d)) => .ok (.val d) w
  | some (some (.own ds)) => .ok (.bor ds) w
  | _ => .bad
def nameW (G : Cn) (x : Str) (s : Sl) (w : Wd) : R RV := match idx G.N x with
  | some i => slotW s[i]? w
  | none => R.of ((G.cst x).map .val) w
def binW (f : EvF) (a : Expr) (op : Operator) (b : Expr) (w : Wd) : R RV := (f a w).bind fun x w => (f b w).bind fun y w => R.of (binop op x y) w
def unW (f : EvF) (op : UnaryOp) (a : Expr) (w : Wd) : R RV := (f a w).bind fun x w => R.of (unop op x) w
def boolW (f : EvF) (op : BoolOp) (es : List Expr) (w : Wd) : R RV := match op with
  | .And => andW f es w
  | .Or => orW f es w
def ifW (f : EvF) (t a b : Expr) (w : Wd) : R RV := (f t w).bind fun x w => match boolOf x with
  | some true => (f a w).bind fun y w => R.of ((frz y).map .val) w
  | some false => (f b w).bind fun y w => R.of ((frz y).map .val) w
  | none => .bad
def cmpW (f : EvF) (a : Expr) (ops : List CmpOp) (bs : List Expr) (w : Wd) : R RV := match ops, bs with
  | [op], [b] => (f a w).bind fun x w => (f b w).bind fun y w => R.of ((cmpop op x y).map fun z => .val (.bool z)) w
  | [op, op'], [b, c] => (f a w).bind fun x w => (f b w).bind fun y w => (R.of (cmpop op x y) w).bind fun z w =>
      (match z with
      | true => (f c w).bind fun u w => R.of ((cmpop op' y u).map fun z => .val (.bool z)) w
      | false => .ok (.val (.bool false)) w)
  | _, _ => .bad
def tupW (f : EvF) (es : List Expr) (w : Wd) : R RV := (evsW f es w).bind fun vs w => match datS vs with
  | some ds => if ds.length ≤ cap then .ok (.val (.tuple ds)) w else .bad
  | none => .bad
def lstW (f : EvF) (es : List Expr) (w : Wd) : R RV := (evsW f es w).bind fun vs w => match datS vs with
  | some ds => if ds.length ≤ cap then .ok (.own ds) w else .bad
  | none => .bad
def isNeg1 : Expr → Bool
  | .UnaryOp .USub (.Constant (.int i) _ _) _ => decide (i = 1)
  | _ => false
def subW (f : EvF) (a b : Expr) (w : Wd) : R RV := match b with
  | .Slice lo hi none _ => (f a w).bind fun x w => (optW f lo w).bind fun l w => (optW f hi w).bind fun h w => R.of (slop x l h) w
  | .Slice none none (some st) _ => if isNeg1 st then (f a w).bind fun x w => R.of (x.lst?.map fun ds => .own ds.reverse) w else .bad
  | .Slice _ _ (some _) _ => .bad
  | b => (f a w).bind fun x w => (f b w).bind fun y w => R.of (ixop x y) w
/-- range(..), its arguments -/
def isRange (G : Cn) (e : Expr) : Option (List Expr) := match e with
  | .Call (.Name g _) as [] _ => if !G.dfn g && decide (bltTab.lookup g = some Blt.range) then some as else none
  | _ => none
def bltW (G : Cn) (f : EvF) (b : Blt) (args : List Expr) (w : Wd) : R RV := match b with
  | .range => .bad
  | .isinst => (match args with
    | [a, .Name t _] => if (idx G.N t).isNone then (f a w).bind fun x w => R.of ((isTy x t).map fun z => .val (.bool z)) w else .bad
    | _ => .bad)
  | .list => (match args with
    | [e] => (match isRange G e with
      | some as => (evsW f as w).bind fun vs w => (match vs with
        | [_, _, _] => .bad
        | vs => R.of ((rangeA vs).map .own) w)
      | none => (f e w).bind fun x w => R.of (bltop .list [x]) w)
    | _ => .bad)
  | b => (match args with
    | [] => .bad
    | a :: as => (evsW f (a :: as) w).bind fun vs w => R.of (bltop b vs) w)
def callW (G : Cn) (f : EvF) (g : Expr) (args : List Expr) (kws : List Keyword) (w : Wd) : R RV := match kws with
  | _ :: _ => .bad
  | [] => (match g with
    | .Name x _ => if G.dfn x then (evsW f args w).bind fun vs w => callT G.T x vs w
      else (match bltTab.lookup x with
        | some b => bltW G f b args w
        | none => .bad)
    | .Attribute o m _ => (match args with
      | [a] => (f o w).bind fun x w => (f a w).bind fun y w => R.of (mtop m x [y]) w
      | _ => .bad)
    | _ => .bad)
def seqOf (x : RV) : Option (List D) := match x with
  | .val (.tuple ds) => some ds
  | x => x.lst?
/-- what is walked; b: a looked-at list too -/
def iterW (b : Bool) (G : Cn) (f : EvF) (e : Expr) (w : Wd) : R (List D) := match isRange G e with
  | some as => (evsW f as w).bind fun vs w => R.of (rangeA vs) w
  | none => (f e w).bind fun x w => if x.isBor && !b then .bad else R.of (seqOf x) w
def ifsW (f : EvF) (ifs : List Expr) (w : Wd) : R Bool := match ifs with
  | [] => .ok true w
  | [c] => (f c w).bind fun x w => R.of (boolOf x) w
  | _ => .bad
def eltW (G : Cn) (f : Sl → EvF) (elt tg : Expr) (ifs : List Expr) (s : Sl) (d : D) (w : Wd) : R (Option D) := match tgt G.N tg d s with
  | none => .bad
  | some s' => (ifsW (f s') ifs w).bind fun b w => (match b with
    | true => (f s' elt w).bind fun x w => R.of ((frz x).map some) w
    | false => .ok none w)
def compW (G : Cn) (f : Sl → EvF) (elt : Expr) (gens : List Comprehension) (sc : Scope) (s : Sl) (w : Wd) : R RV := match gens with
  | [⟨tg, iter, ifs, k⟩] => if k = 0 then
      (iterW true G (f s) iter w).bind fun ds w => (compL (eltW G f elt tg ifs (wipeS s ((ownOf G.N sc).map (·.2)))) ds w).bind fun ds w =>
        if ds.length ≤ cap then .ok (.own ds) w else .bad
      else .bad
  | _ => .bad

def ev : Nat → Cn → Sl → EvF
  | 0, _, _, _, _ => .bad
  | n + 1, G, s, e, w => match e with
    | .Constant c _ _ => cstW c w
    | .Name x _ => nameW G x s w
    | .BinOp a op b _ => binW (ev n G s) a op b w
    | .UnaryOp op a _ => unW (ev n G s) op a w
    | .BoolOp op es _ => boolW (ev n G s) op es w
    | .IfExp t a b _ => ifW (ev n G s) t a b w
    | .Compare a ops bs _ => cmpW (ev n G s) a ops bs w
    | .Tuple es _ _ => tupW (ev n G s) es w
    | .List es _ => lstW (ev n G s) es w
    | .Subscript a b _ => subW (ev n G s) a b w
    | .Call g args kws _ => callW G (ev n G s) g args kws w
    | .ListComp elt gens sc _ => compW G (ev n G) elt gens sc s w
    | _ => .bad

/-! ### statements -/
inductive Out where
  | nxt (s : Sl)
  | ret (v : RV)
  | brk (s : Sl)
  | cnt (s : Sl)
/-- a target of an assignment takes a value: a name, or x[i] of an own list -/
def stT (G : Cn) (f : Sl → EvF) (t : Expr) (d : D) (s : Sl) (w : Wd) : R Sl := match t with
  | .Name x _ => (match idx G.N x with
    | some i => .ok (s.set i (some (.val d))) w
    | none => .bad)
  | .Subscript (.Name x _) b _ => (match b with
    | .Slice _ _ _ _ => .bad
    | b => (match idx G.N x with
      | some k => (match s[k]? with
        | some (some (.own ds)) => (f s b w).bind fun y w => (match y with
          | .val (.int i) => (match L2.ixN ds.length i with
            | some j => .ok (s.set k (some (.own (ds.set j d)))) w
            | none => .bad)
          | _ => .bad)
        | _ => .bad)
      | none => .bad))
  | _ => .bad
def stTs (G : Cn) (f : Sl → EvF) : List Expr → List D → Sl → Wd → R Sl
  | [], ds, s, w => (match ds with | [] => .ok s w | _ :: _ => .bad)
  | t :: ts, ds, s, w => match ds with
    | [] => .bad
    | d :: ds => (stT G f t d s w).bind fun s w => stTs G f ts ds s w
/-- a name whose slot owns a list -/
def isOwn (G : Cn) (e : Expr) (s : Sl) : Option (Nat × List D) := match e with
  | .Name y _ => (match idx G.N y with
    | some j => (match s[j]? with
      | some (some (.own ds)) => some (j, ds)
      | _ => none)
    | none => none)
  | _ => none
/-- x = e, e's value held as it comes -/
def asgN (G : Cn) (i : Nat) (x : Str) (v : RV) (s : Sl) (w : Wd) : R Sl := match v with
  | .val d => .ok (s.set i (some (.val d))) w
  | .own ds => if G.mt.contains x then .ok (s.set i (some (.own ds))) w else .ok (s.set i (some (.val (.list ds)))) w
  | .bor _ => .bad
def asgW (G : Cn) (f : Sl → EvF) (t e : Expr) (s : Sl) (w : Wd) : R Sl := match t with
  | .Name x _ => (match idx G.N x with
    | none => .bad
    | some i => (match isOwn G e s with
      | some (j, ds) => .ok ((s.set j (some (.val (.list ds)))).set i (some (.val (.list ds)))) w
      | none => (f s e w).bind fun v w => asgN G i x v s w))
  | .Tuple ts _ _ => (f s e w).bind fun v w => (match v with
    | .val (.tuple ds) => stTs G f ts ds s w
    | _ => .bad)
  | t => (f s e w).bind fun v w => (match frz v with
    | some d => stT G f t d s w
    | none => .bad)
/-- a op= b -/
def augop (op : Operator) (a : RV) (b : RV) : Option RV := match op, a with
  | .Add, .own xs => (match b.lst? with
    | some ys => if xs.length + ys.length ≤ cap then some (.own (xs ++ ys)) else none
    | none => none)
  | .Add, .val (.int i) => (match b with
    | .val (.int j) => some (.val (.int (i + j)))
    | _ => none)
  | .Mult, .val (.int i) => (match b with
    | .val (.int j) => if mulOk i j then some (.val (.int (i * j))) else none
    | _ => none)
  | _, _ => none
def augW (G : Cn) (f : Sl → EvF) (t : Expr) (op : Operator) (e : Expr) (s : Sl) (w : Wd) : R Sl := match t with
  | .Name x _ => (match idx G.N x with
    | some i => (match s[i]? with
      | some (some v) => (f s e w).bind fun y w => (match augop op v y with
        | some z => .ok (s.set i (some z)) w
        | none => .bad)
      | _ => .bad)
    | none => .bad)
  | _ => .bad
/-- the methods that change a list -/
def mutop (m : Str) (ds : List D) (d : D) : Option (List D) :=
  if m = "append" then (if ds.length < cap then some (ds ++ [d]) else none)
  else if m = "remove" then (match asInts ds, d with
    | some _, .int _ => (findD d ds).map fun j => ds.eraseIdx j
    | _, _ => none)
  else none
/-- x.m(a) of an own list -/
def mutW (G : Cn) (f : Sl → EvF) (x m : Str) (a : Expr) (s : Sl) (w : Wd) : R Sl := match idx G.N x with
  | some i => (match s[i]? with
    | some (some (.own ds)) => (f s a w).bind fun y w => (match frz y with
      | some d => (match mutop m ds d with
        | some ds' => .ok (s.set i (some (.own ds'))) w
        | none => .bad)
      | none => .bad)
    | _ => .bad)
  | none => .bad
def isMut : Expr → Option (Str × Str × Expr)
  | .Call (.Attribute (.Name x _) m _) [a] [] _ => if m = "append" ∨ m = "remove" then some (x, m, a) else none
  | _ => none
def exprW (G : Cn) (f : Sl → EvF) (e : Expr) (s : Sl) (w : Wd) : R Sl := match isMut e with
  | some (x, m, a) => mutW G f x m a s w
  | none => (f s e w).bind fun _ w => .ok s w
/-- a list that is walked stays as it is -/
def frzN (G : Cn) (e : Expr) (s : Sl) : Sl := match e with
  | .Name x _ => (match idx G.N x with
    | some i => (match s[i]? with
      | some (some (.own ds)) => s.set i (some (.val (.list ds)))
      | _ => s)
    | none => s)
  | _ => s
def execs (f : Stmt → Sl → Wd → R Out) : List Stmt → Sl → Wd → R Out
  | [], s, w => .ok (.nxt s) w
  | st :: r, s, w => (f st s w).bind fun o w => match o with
    | .nxt s => execs f r s w
    | o => .ok o w
def forL (f : D → Sl → Wd → R Out) : List D → Sl → Wd → R Out
  | [], s, w => .ok (.nxt s) w
  | d :: r, s, w => (f d s w).bind fun o w => match o with
    | .nxt s => forL f r s w
    | .cnt s => forL f r s w
    | .brk s => .ok (.nxt s) w
    | .ret v => .ok (.ret v) w
def whlL (c : Sl → Wd → R Bool) (f : Sl → Wd → R Out) : Nat → Sl → Wd → R Out
  | 0, _, _ => .bad
  | n + 1, s, w => (c s w).bind fun b w => match b with
    | false => .ok (.nxt s) w
    | true => (f s w).bind fun o w => match o with
      | .nxt s => whlL c f n s w
      | .cnt s => whlL c f n s w
      | .brk s => .ok (.nxt s) w
      | .ret v => .ok (.ret v) w
def retW (G : Cn) (f : EvF) (e : Expr) (s : Sl) (w : Wd) : R Out := match isOwn G e s with
  | some (_, ds) => .ok (.ret (.own ds)) w
  | none => (f e w).bind fun v w => (match v with
    | .bor _ => .bad
    | v => .ok (.ret v) w)
def tstW (f : EvF) (c : Expr) (w : Wd) : R Bool := (f c w).bind fun x w => R.of (boolOf x) w
/-- how often a while may turn -/
def turns : Nat := 18446744073709551616
def evF : Nat := 40

def ex : Nat → Cn → Stmt → Sl → Wd → R Out
  | 0, _, _, _, _ => .bad
  | n + 1, G, st, s, w => match st with
    | .Assign ts e _ => (match ts with
      | [t] => (asgW G (ev evF G) t e s w).bind fun s w => .ok (.nxt s) w
      | _ => .bad)
    | .AugAssign t op e _ => (augW G (ev evF G) t op e s w).bind fun s w => .ok (.nxt s) w
    | .If c a b _ => (tstW (ev evF G s) c w).bind fun x w => (match x with
      | true => execs (ex n G) a s w
      | false => execs (ex n G) b s w)
    | .For tg iter body orelse _ => (match orelse with
      | [] => (iterW false G (ev evF G (frzN G iter s)) iter w).bind fun ds w => forL (fun d s w => match tgt G.N tg d s with
        | some s => execs (ex n G) body s w
        | none => .bad) ds (frzN G iter s) w
      | _ :: _ => .bad)
    | .While c body orelse _ => (match orelse with
      | [] => whlL (fun s w => tstW (ev evF G s) c w) (fun s w => execs (ex n G) body s w) turns s w
      | _ :: _ => .bad)
    | .Return e _ => (match e with
      | none => .ok (.ret (.val .none)) w
      | some e => retW G (ev evF G s) e s w)
    | .Expr e _ => (exprW G (ev evF G) e s w).bind fun s w => .ok (.nxt s) w
    | .Pass _ => .ok (.nxt s) w
    | .Break _ => .ok (.brk s) w
    | .Continue _ => .ok (.cnt s) w
    | _ => .bad

/-! ### a program -/
/-- what a def is: a body, or one of the law's two doers -/
inductive Kd where
  | body | start | draw
structure FD where
  kd : Kd
  np : Nat
  N : List Str
  mt : List Str
  st : Stmt
structure Pg where
  fs : List (Str × FD)
  cs : List (Str × D)
def spc (k : Nat) : D := .dict [(.int k, .none)]
def drawV (ns : List Int) (c limit : Int) : Option (Int × List Int) :=
  match ns[(c.fmod ns.length).toNat]? with
  | none => none
  | some cell => if 1000000000000000000 ≤ cell then some (cell.fmod limit, ns.set (c.fmod ns.length).toNat (cell.fdiv limit))
    else
      let m := (cell + 104729 * c).fmod 4294967291
      let m := (m ^ 5).fmod 4294967279
      some (((m.fdiv 64 * 69621 + m).fmod 4294967231).fdiv 8 |>.fmod limit, ns)
def drawT (vs : List D) (w : Wd) : R RV := match vs with
  | [.dict [(.int (.ofNat k), .none)], .int limit] => (match w[k]? with
    | some (.drw ns c) => if divOk limit && !ns.isEmpty && decide (ns.length ≤ 1000) then (match drawV ns (c + 1) limit with
      | some (v, ns') => .ok (.val (.int v)) (w.set k (.drw ns' (c + 1)))
      | none => .bad) else .bad
    | _ => .bad)
  | _ => .bad
def startT (vs : List D) (w : Wd) : R RV := match vs with
  | [.dict [(.int (.ofNat k), .none)]] => (match w[k]? with
    | some (.scr ns) => if ns.length ≤ 1000 then .ok (.val (spc w.length)) (w ++ [.drw (if ns.isEmpty then [0] else ns) 0]) else .bad
    | _ => .bad)
  | _ => .bad
def slotsOf (N : List Str) (vs : List D) : Sl := vs.map (fun d => some (.val d)) ++ List.replicate (N.length - vs.length) none
def outV (o : R Out) : R RV := o.bind fun o w => match o with
  | .ret v => .ok v w
  | .nxt _ => .ok (.val .none) w
  | _ => .bad
def exF : Nat := 12
/-- the answers at level n -/
def Pg.T (P : Pg) : Nat → Tab
  | 0, _, _, _ => .bad
  | n + 1, f, vs, w => match P.fs.lookup f with
    | none => .bad
    | some fd => if vs.length = fd.np then (match fd.kd with
      | .start => startT vs w
      | .draw => drawT vs w
      | .body => outV (execs (ex exF ⟨P.T n, fun x => (P.fs.lookup x).isSome, fun x => P.cs.lookup x, fd.N, fd.mt⟩) (L2.defBody fd.st) (slotsOf fd.N vs) w)) else .bad
end TM

namespace TM
open PySem L2

/-! ### what stands for what -/
/-- an object of the world by its places -/
inductive GO where
  | drw (a b : Addr)
  | scr (a : Addr)
def GO.main : GO → Addr
  | .drw a _ => a
  | .scr a => a
def GO.adr : GO → List Addr
  | .drw a b => [a, b]
  | .scr _ => []
abbrev Gh := List GO
def WA (g : Gh) (a : Addr) : Prop := ∃ o ∈ g, a ∈ o.adr
abbrev Os := Addr → Prop

mutual
inductive Rep (g : Gh) (O : Os) (H : Hp) : V → D → Prop
  | non : Rep g O H .non .none
  | bl (b : Bool) : Rep g O H (.bl b) (.bool b)
  | int (i : Int) : Rep g O H (.int i) (.int i)
  | str (x : Str) : Rep g O H (.str x) (.str x)
  | lst {a : Addr} {vs : List V} {ds : List D} : H a = some (.lst vs) → ¬ O a → Reps g O H vs ds → Rep g O H (.ref a) (.list ds)
  | tup {a : Addr} {vs : List V} {ds : List D} : H a = some (.tup vs) → Reps g O H vs ds → Rep g O H (.ref a) (.tuple ds)
  | spc {k : Nat} {o : GO} : g[k]? = some o → Rep g O H (.ref o.main) (.dict [(.int (.ofNat k), .none)])
inductive Reps (g : Gh) (O : Os) (H : Hp) : List V → List D → Prop
  | nil : Reps g O H [] []
  | cons {v : V} {vs : List V} {d : D} {ds : List D} : Rep g O H v d → Reps g O H vs ds → Reps g O H (v :: vs) (d :: ds)
end

/-- an object of the world as it stands -/
def W1 (K : PySem.W.Frag) (H : Hp) : GO → WO → Prop
  | .drw a b, .drw ns c => H a = some (.lst [.ref b, .int c]) ∧ H b = some (.lst (ns.map V.int))
  | .scr a, .scr ns => (∃ o, H a = some (.frz o (.lst (ns.map V.int)))) ∨ SqL K (fun _ => none) a (ns.map V.int)
  | _, _ => False
structure WRep (K : PySem.W.Frag) (H : Hp) (g : Gh) (w : Wd) : Prop where
  pr : Paired (W1 K H) g w
  nd : (g.flatMap GO.adr).Nodup
structure Wf (H : Hp) (O : Os) (g : Gh) : Prop where
  wao : ∀ a, WA g a → O a
  oal : ∀ a, O a → H a ≠ none
  ot : ∀ a, O a → ∀ vs, H a ≠ some (.tup vs)
/-- from one state to a later one: all that was there is there, but for the world's objects -/
structure Evo (H : Hp) (O : Os) (g : Gh) (H' : Hp) (O' : Os) (g' : Gh) : Prop where
  keep : ∀ a o, H a = some o → ¬ WA g a → H' a = some o
  still : ∀ a, H a ≠ none → H' a ≠ none
  omono : ∀ b, O b → O' b
  onew : ∀ b, O' b → O b ∨ H b = none
  gpre : g <+: g'
  gnew : ∀ a, WA g' a → WA g a ∨ H a = none

theorem Evo.refl {H : Hp} {O : Os} {g : Gh} : Evo H O g H O g := ⟨fun _ _ h _ => h, fun _ h => h, fun _ h => h, fun _ h => .inl h, List.prefix_refl _, fun _ h => .inl h⟩
theorem Evo.trans {H H1 H2 : Hp} {O O1 O2 : Os} {g g1 g2 : Gh} (a : Evo H O g H1 O1 g1) (b : Evo H1 O1 g1 H2 O2 g2) : Evo H O g H2 O2 g2 where
  keep := fun x o h n => b.keep x o (a.keep x o h n) fun z => (a.gnew x z).elim n fun q => by rw [h] at q; cases q
  still := fun x h => b.still x (a.still x h)
  omono := fun x h => b.omono x (a.omono x h)
  onew := fun x h => by
    rcases b.onew x h with z | z
    · exact a.onew x z
    · right
      cases q : H x with
      | none => rfl
      | some o => exact absurd z (a.still x (by rw [q]; simp))
  gpre := a.gpre.trans b.gpre
  gnew := fun x h => by
    rcases b.gnew x h with z | z
    · exact a.gnew x z
    · right
      cases q : H x with
      | none => rfl
      | some o => exact absurd z (a.still x (by rw [q]; simp))
/-- what was new behind is new before -/
theorem Evo.back {H H' : Hp} {O O' : Os} {g g' : Gh} (e : Evo H O g H' O' g') {a : Addr} (h : H' a = none) : H a = none := by
  cases q : H a with
  | none => rfl
  | some o => exact absurd h (e.still a (by rw [q]; simp))
theorem Wf.fresh {H : Hp} {O : Os} {g : Gh} (w : Wf H O g) {p : Addr} (h : H p = none) : ¬ O p ∧ ¬ WA g p := ⟨fun z => w.oal p z h, fun z => w.oal p (w.wao p z) h⟩

mutual
theorem Rep.evo {H H' : Hp} {O O' : Os} {g g' : Gh} (e : Evo H O g H' O' g') (w : Wf H O g) : ∀ {v : V} {d : D}, Rep g O H v d → Rep g' O' H' v d
  | _, _, .non => .non
  | _, _, .bl b => .bl b
  | _, _, .int i => .int i
  | _, _, .str x => .str x
  | _, _, .lst h n r => .lst (e.keep _ _ h fun z => n (w.wao _ z)) (fun z => (e.onew _ z).elim n fun q => by rw [h] at q; cases q) (Reps.evo e w r)
  | _, _, .tup h r => .tup (e.keep _ _ h fun z => w.ot _ (w.wao _ z) _ h) (Reps.evo e w r)
  | _, _, .spc (k := k) (o := o) h => .spc (by
      obtain ⟨t, rfl⟩ := e.gpre
      rw [List.getElem?_append_left (List.getElem?_eq_some_iff.mp h).1]
      exact h)
theorem Reps.evo {H H' : Hp} {O O' : Os} {g g' : Gh} (e : Evo H O g H' O' g') (w : Wf H O g) : ∀ {vs : List V} {ds : List D}, Reps g O H vs ds → Reps g' O' H' vs ds
  | _, _, .nil => .nil
  | _, _, .cons a b => .cons (Rep.evo e w a) (Reps.evo e w b)
end
theorem W1.lst {K : PySem.W.Frag} {H : Hp} {o : GO} {x : WO} (h : W1 K H o x) : ∀ a ∈ o.adr, ∃ xs, H a = some (.lst xs) := fun a ha => by
  cases o with
  | drw p q => cases x with
    | drw ns c =>
      obtain ⟨h1, h2⟩ := h
      rcases List.mem_cons.mp ha with rfl | ha
      · exact ⟨_, h1⟩
      · rcases List.mem_cons.mp ha with rfl | ha
        · exact ⟨_, h2⟩
        · cases ha
    | orc o => exact h.elim
    | scr ns => exact h.elim
  | scr p => cases ha
theorem Paired.mem_left {α β : Type} {F : α → β → Prop} : ∀ {l : List α} {m : List β}, Paired F l m → ∀ a ∈ l, ∃ b ∈ m, F a b
  | _, _, .nil, a, h => nomatch h
  | _, _, .cons r t, a, h => by
    rcases List.mem_cons.mp h with rfl | h
    · exact ⟨_, List.mem_cons_self, r⟩
    · obtain ⟨b, hb, q⟩ := Paired.mem_left t a h
      exact ⟨b, List.mem_cons_of_mem _ hb, q⟩
theorem WRep.lst {K : PySem.W.Frag} {H : Hp} {g : Gh} {w : Wd} (r : WRep K H g w) {a : Addr} (h : WA g a) : ∃ xs, H a = some (.lst xs) := by
  obtain ⟨o, ho, ha⟩ := h
  obtain ⟨x, _, hx⟩ := Paired.mem_left r.pr o ho
  exact hx.lst a ha
theorem WRep.nt {K : PySem.W.Frag} {H : Hp} {g : Gh} {w : Wd} (r : WRep K H g w) : ∀ a, WA g a → ∀ vs, H a ≠ some (.tup vs) := fun a h vs q => by
  obtain ⟨xs, e⟩ := r.lst h
  rw [e] at q; cases q

/-- the state of a run as the proof sees it -/
structure St3 (K : PySem.W.Frag) (H : Hp) (O : Os) (g : Gh) (w : Wd) : Prop where
  wf : Wf H O g
  wr : WRep K H g w
theorem St3.rep {K : PySem.W.Frag} {H H' : Hp} {O O' : Os} {g g' : Gh} {w : Wd} (s : St3 K H O g w) (e : Evo H O g H' O' g') {v : V} {d : D} (r : Rep g O H v d) : Rep g' O' H' v d := r.evo e s.wf
theorem St3.reps {K : PySem.W.Frag} {H H' : Hp} {O O' : Os} {g g' : Gh} {w : Wd} (s : St3 K H O g w) (e : Evo H O g H' O' g') {v : List V} {d : List D} (r : Reps g O H v d) : Reps g' O' H' v d := r.evo e s.wf

/-- a list that stands at a, with its items -/
def LAt (g : Gh) (O : Os) (H : Hp) (a : Addr) (ds : List D) : Prop := ∃ vs, H a = some (.lst vs) ∧ Reps g O H vs ds
theorem St3.lat {K : PySem.W.Frag} {H H' : Hp} {O O' : Os} {g g' : Gh} {w : Wd} (s : St3 K H O g w) (e : Evo H O g H' O' g') {a : Addr} {ds : List D} (n : ¬ WA g a) (r : LAt g O H a ds) : LAt g' O' H' a ds := by
  obtain ⟨vs, h, r⟩ := r
  exact ⟨vs, e.keep _ _ h n, s.reps e r⟩
/-- a value as it is held, H0 the heap before it was made -/
def RepV (g : Gh) (O : Os) (H0 H : Hp) (v : V) : RV → Prop
  | .val d => Rep g O H v d
  | .own ds => ∃ a, v = .ref a ∧ O a ∧ ¬ WA g a ∧ H0 a = none ∧ LAt g O H a ds
  | .bor ds => ∃ a, v = .ref a ∧ O a ∧ ¬ WA g a ∧ LAt g O H a ds
/-- .. to be read -/
def RepB (g : Gh) (O : Os) (H : Hp) (v : V) : RV → Prop
  | .val d => Rep g O H v d
  | .own ds => ∃ a, v = .ref a ∧ ¬ WA g a ∧ LAt g O H a ds
  | .bor ds => ∃ a, v = .ref a ∧ ¬ WA g a ∧ LAt g O H a ds
theorem RepV.b {g : Gh} {O : Os} {H0 H : Hp} {v : V} {r : RV} (h : RepV g O H0 H v r) : RepB g O H v r := by
  cases r with
  | val d => exact h
  | own ds => obtain ⟨a, e, _, n, _, l⟩ := h; exact ⟨a, e, n, l⟩
  | bor ds => obtain ⟨a, e, _, n, l⟩ := h; exact ⟨a, e, n, l⟩
theorem WA.of_evo {H H' : Hp} {O O' : Os} {g g' : Gh} (e : Evo H O g H' O' g') {a : Addr} (h : H a ≠ none) (n : ¬ WA g a) : ¬ WA g' a := fun z => (e.gnew a z).elim n h
theorem LAt.al {g : Gh} {O : Os} {H : Hp} {a : Addr} {ds : List D} (h : LAt g O H a ds) : H a ≠ none := by
  obtain ⟨vs, h, _⟩ := h
  rw [h]; simp
theorem St3.repB {K : PySem.W.Frag} {H H' : Hp} {O O' : Os} {g g' : Gh} {w : Wd} (s : St3 K H O g w) (e : Evo H O g H' O' g') {v : V} {r : RV} (h : RepB g O H v r) : RepB g' O' H' v r := by
  cases r with
  | val d => exact s.rep e h
  | own ds => obtain ⟨a, q, n, l⟩ := h; exact ⟨a, q, WA.of_evo e l.al n, s.lat e n l⟩
  | bor ds => obtain ⟨a, q, n, l⟩ := h; exact ⟨a, q, WA.of_evo e l.al n, s.lat e n l⟩
theorem St3.repV {K : PySem.W.Frag} {H0 H H' : Hp} {O O' : Os} {g g' : Gh} {w : Wd} (s : St3 K H O g w) (e : Evo H O g H' O' g') {v : V} {r : RV} (h : RepV g O H0 H v r) : RepV g' O' H0 H' v r := by
  cases r with
  | val d => exact s.rep e h
  | own ds => obtain ⟨a, q, o, n, f, l⟩ := h; exact ⟨a, q, e.omono a o, WA.of_evo e l.al n, f, s.lat e n l⟩
  | bor ds => obtain ⟨a, q, o, n, l⟩ := h; exact ⟨a, q, e.omono a o, WA.of_evo e l.al n, s.lat e n l⟩
/-- new since a later heap: new since an earlier one -/
theorem RepV.from {H H' : Hp} {O O' O2 : Os} {g g' g2 : Gh} {H2 : Hp} (e : Evo H O g H' O' g') {v : V} {r : RV} (h : RepV g2 O2 H' H2 v r) : RepV g2 O2 H H2 v r := by
  cases r with
  | val d => exact h
  | own ds => obtain ⟨a, q, o, n, f, l⟩ := h; exact ⟨a, q, o, n, e.back f, l⟩
  | bor ds => exact h
/-- read as a list -/
theorem RepB.lst {g : Gh} {O : Os} {H : Hp} {v : V} {r : RV} {ds : List D} (h : RepB g O H v r) (e : r.lst? = some ds) : ∃ a, v = .ref a ∧ LAt g O H a ds := by
  cases r with
  | val d =>
    cases d with
    | list xs =>
      have e' : xs = ds := Option.some.inj e
      subst e'
      have h' : Rep g O H v (.list xs) := h
      cases h' with
      | lst h1 n r => exact ⟨_, rfl, _, h1, r⟩
    | _ => cases e
  | own xs =>
    have e' : xs = ds := Option.some.inj e
    subst e'
    obtain ⟨a, q, _, l⟩ := h
    exact ⟨a, q, l⟩
  | bor xs =>
    have e' : xs = ds := Option.some.inj e
    subst e'
    obtain ⟨a, q, _, l⟩ := h
    exact ⟨a, q, l⟩

/-! ### new things -/
theorem Evo.newTup {H : Hp} {O : Os} {g : Gh} (w : Wf H O g) {p : Addr} {o : HO} (h : H p = none) : Evo H O g (upd H p o) O g where
  keep := fun a u e _ => by rw [upd_ne (ne_of_none e h)]; exact e
  still := fun a e => by
    by_cases z : a = p
    · rw [z, upd_same]; simp
    · rw [upd_ne z]; exact e
  omono := fun _ e => e
  onew := fun _ e => .inl e
  gpre := List.prefix_refl _
  gnew := fun _ e => .inl e
theorem Wf.new {H : Hp} {O : Os} {g : Gh} (w : Wf H O g) {p : Addr} {o : HO} (h : H p = none) : Wf (upd H p o) O g where
  wao := w.wao
  ot := fun a z vs => by
    by_cases q : a = p
    · rw [q] at z; exact absurd h (w.oal p z)
    · rw [upd_ne q]; exact w.ot a z vs
  oal := fun a h => by
    by_cases z : a = p
    · rw [z, upd_same]; simp
    · rw [upd_ne z]; exact w.oal a h
def addO (O : Os) (p : Addr) : Os := fun b => O b ∨ b = p
theorem Evo.newOwn {H : Hp} {O : Os} {g : Gh} (w : Wf H O g) {p : Addr} {o : HO} (h : H p = none) : Evo H O g (upd H p o) (addO O p) g where
  keep := fun a u e _ => by rw [upd_ne (ne_of_none e h)]; exact e
  still := fun a e => by
    by_cases z : a = p
    · rw [z, upd_same]; simp
    · rw [upd_ne z]; exact e
  omono := fun _ e => .inl e
  onew := fun _ e => e.elim .inl fun z => .inr (by rw [z]; exact h)
  gpre := List.prefix_refl _
  gnew := fun _ e => .inl e
theorem Wf.newOwn {H : Hp} {O : Os} {g : Gh} (w : Wf H O g) {p : Addr} {o : List V} : Wf (upd H p (.lst o)) (addO O p) g where
  wao := fun a h => .inl (w.wao a h)
  ot := fun a z vs => by
    by_cases q : a = p
    · rw [q, upd_same]; intro e; cases e
    · rw [upd_ne q]; exact w.ot a (z.elim id fun e => absurd e q) vs
  oal := fun a h => by
    by_cases z : a = p
    · rw [z, upd_same]; simp
    · rw [upd_ne z]; exact w.oal a (h.elim id fun q => absurd q z)
theorem W1.keep {K : PySem.W.Frag} {H H' : Hp} {o : GO} {x : WO} (h : W1 K H o x) (k : ∀ a u, H a = some u → H' a = some u) : W1 K H' o x := by
  cases o with
  | drw p q => cases x with
    | drw ns c => exact ⟨k _ _ h.1, k _ _ h.2⟩
    | orc o => exact h.elim
    | scr ns => exact h.elim
  | scr p => cases x with
    | drw ns c => exact h.elim
    | orc o => exact h.elim
    | scr ns => exact h.elim (fun ⟨o, q⟩ => .inl ⟨o, k _ _ q⟩) .inr
theorem Paired.imp {α β : Type} {F G : α → β → Prop} (f : ∀ a b, F a b → G a b) : ∀ {l : List α} {m : List β}, Paired F l m → Paired G l m
  | _, _, .nil => .nil
  | _, _, .cons r t => .cons (f _ _ r) (Paired.imp f t)
theorem WRep.keep {K : PySem.W.Frag} {H H' : Hp} {g : Gh} {w : Wd} (r : WRep K H g w) (k : ∀ a u, H a = some u → H' a = some u) : WRep K H' g w := ⟨Paired.imp (fun _ _ h => h.keep k) r.pr, r.nd⟩
theorem upd_keep {H : Hp} {p : Addr} {o : HO} (h : H p = none) : ∀ a u, H a = some u → upd H p o a = some u := fun a u e => by rw [upd_ne (ne_of_none e h)]; exact e
theorem St3.newTup {K : PySem.W.Frag} {H : Hp} {O : Os} {g : Gh} {w : Wd} (s : St3 K H O g w) {p : Addr} {o : HO} (h : H p = none) : St3 K (upd H p o) O g w := ⟨s.wf.new h, s.wr.keep (upd_keep h)⟩
theorem St3.newOwn {K : PySem.W.Frag} {H : Hp} {O : Os} {g : Gh} {w : Wd} (s : St3 K H O g w) {p : Addr} {o : List V} (h : H p = none) : St3 K (upd H p (.lst o)) (addO O p) g w := ⟨s.wf.newOwn, s.wr.keep (upd_keep h)⟩

/-! ### a list is frozen -/
def remO (O : Os) (p : Addr) : Os := fun b => O b ∧ b ≠ p
mutual
theorem Rep.anti {g : Gh} {O O' : Os} {H : Hp} (k : ∀ b, O' b → O b) : ∀ {v : V} {d : D}, Rep g O H v d → Rep g O' H v d
  | _, _, .non => .non
  | _, _, .bl b => .bl b
  | _, _, .int i => .int i
  | _, _, .str x => .str x
  | _, _, .lst h n r => .lst h (fun z => n (k _ z)) (Reps.anti k r)
  | _, _, .tup h r => .tup h (Reps.anti k r)
  | _, _, .spc h => .spc h
theorem Reps.anti {g : Gh} {O O' : Os} {H : Hp} (k : ∀ b, O' b → O b) : ∀ {vs : List V} {ds : List D}, Reps g O H vs ds → Reps g O' H vs ds
  | _, _, .nil => .nil
  | _, _, .cons a b => .cons (Rep.anti k a) (Reps.anti k b)
end
theorem Evo.rem {H H' : Hp} {O O' : Os} {g g' : Gh} (e : Evo H O g H' O' g') (w : Wf H O g) {a : Addr} (h : H a = none) : Evo H O g H' (remO O' a) g' where
  keep := e.keep
  still := e.still
  omono := fun b z => ⟨e.omono b z, fun q => w.oal b z (by rw [q]; exact h)⟩
  onew := fun b z => e.onew b z.1
  gpre := e.gpre
  gnew := e.gnew
theorem St3.rem {K : PySem.W.Frag} {H : Hp} {O : Os} {g : Gh} {w : Wd} (s : St3 K H O g w) {a : Addr} (n : ¬ WA g a) : St3 K H (remO O a) g w :=
  ⟨⟨fun b z => ⟨s.wf.wao b z, fun q => n (by rw [← q]; exact z)⟩, fun b z => s.wf.oal b z.1, fun b z => s.wf.ot b z.1⟩, s.wr⟩
theorem LAt.rep {g : Gh} {O : Os} {H : Hp} {a : Addr} {ds : List D} (l : LAt g O H a ds) : Rep g (remO O a) H (.ref a) (.list ds) := by
  obtain ⟨vs, h, r⟩ := l
  exact .lst h (fun z => z.2 rfl) (r.anti fun _ z => z.1)

/-! ### from one statement to a later one: all that is not own is as it was -/
structure EvoS (H : Hp) (O : Os) (g : Gh) (H' : Hp) (O' : Os) (g' : Gh) : Prop where
  keep : ∀ a o, H a = some o → ¬ O a → H' a = some o
  still : ∀ a, H a ≠ none → H' a ≠ none
  onew : ∀ b, O' b → O b ∨ H b = none
  gpre : g <+: g'
theorem EvoS.refl {H : Hp} {O : Os} {g : Gh} : EvoS H O g H O g := ⟨fun _ _ h _ => h, fun _ h => h, fun _ h => .inl h, List.prefix_refl _⟩
theorem Evo.s {H H' : Hp} {O O' : Os} {g g' : Gh} (e : Evo H O g H' O' g') (w : Wf H O g) : EvoS H O g H' O' g' := ⟨fun a o h n => e.keep a o h fun z => n (w.wao a z), e.still, e.onew, e.gpre⟩
theorem EvoS.trans {H H1 H2 : Hp} {O O1 O2 : Os} {g g1 g2 : Gh} (a : EvoS H O g H1 O1 g1) (b : EvoS H1 O1 g1 H2 O2 g2) : EvoS H O g H2 O2 g2 where
  keep := fun x o h n => b.keep x o (a.keep x o h n) fun z => (a.onew x z).elim n fun q => by rw [h] at q; cases q
  still := fun x h => b.still x (a.still x h)
  onew := fun x h => by
    rcases b.onew x h with z | z
    · exact a.onew x z
    · right
      cases q : H x with
      | none => rfl
      | some o => exact absurd z (a.still x (by rw [q]; simp))
  gpre := a.gpre.trans b.gpre
mutual
theorem Rep.evoS {H H' : Hp} {O O' : Os} {g g' : Gh} (e : EvoS H O g H' O' g') (w : Wf H O g) : ∀ {v : V} {d : D}, Rep g O H v d → Rep g' O' H' v d
  | _, _, .non => .non
  | _, _, .bl b => .bl b
  | _, _, .int i => .int i
  | _, _, .str x => .str x
  | _, _, .lst h n r => .lst (e.keep _ _ h n) (fun z => (e.onew _ z).elim n fun q => by rw [h] at q; cases q) (Reps.evoS e w r)
  | _, _, .tup h r => .tup (e.keep _ _ h fun z => w.ot _ z _ h) (Reps.evoS e w r)
  | _, _, .spc (k := k) (o := o) h => .spc (by
      obtain ⟨t, rfl⟩ := e.gpre
      rw [List.getElem?_append_left (List.getElem?_eq_some_iff.mp h).1]
      exact h)
theorem Reps.evoS {H H' : Hp} {O O' : Os} {g g' : Gh} (e : EvoS H O g H' O' g') (w : Wf H O g) : ∀ {vs : List V} {ds : List D}, Reps g O H vs ds → Reps g' O' H' vs ds
  | _, _, .nil => .nil
  | _, _, .cons a b => .cons (Rep.evoS e w a) (Reps.evoS e w b)
end
/-! ### an own list is changed -/
mutual
theorem Rep.mut {H : Hp} {O : Os} {g : Gh} {p : Addr} {xs ys : List V} (hp : H p = some (.lst xs)) (o : O p) : ∀ {v : V} {d : D}, Rep g O H v d → Rep g O (upd H p (.lst ys)) v d
  | _, _, .non => .non
  | _, _, .bl b => .bl b
  | _, _, .int i => .int i
  | _, _, .str x => .str x
  | _, _, .lst (a := a) h n r => .lst (by rw [upd_ne (fun z => n (by rw [z]; exact o))]; exact h) n (Reps.mut hp o r)
  | _, _, .tup (a := a) h r => .tup (by rw [upd_ne (fun z => by rw [z, hp] at h; cases h)]; exact h) (Reps.mut hp o r)
  | _, _, .spc h => .spc h
theorem Reps.mut {H : Hp} {O : Os} {g : Gh} {p : Addr} {xs ys : List V} (hp : H p = some (.lst xs)) (o : O p) : ∀ {vs : List V} {ds : List D}, Reps g O H vs ds → Reps g O (upd H p (.lst ys)) vs ds
  | _, _, .nil => .nil
  | _, _, .cons a b => .cons (Rep.mut hp o a) (Reps.mut hp o b)
end
theorem St3.mut {K : PySem.W.Frag} {H : Hp} {O : Os} {g : Gh} {w : Wd} (s : St3 K H O g w) {p : Addr} {xs ys : List V} (hp : H p = some (.lst xs)) (n : ¬ WA g p) : St3 K (upd H p (.lst ys)) O g w := by
  refine ⟨⟨s.wf.wao, fun a z => ?_, fun a z vs => ?_⟩, ⟨?_, s.wr.nd⟩⟩
  · by_cases q : a = p
    · rw [q, upd_same]; simp
    · rw [upd_ne q]; exact s.wf.oal a z
  · by_cases q : a = p
    · rw [q, upd_same]; intro e; cases e
    · rw [upd_ne q]; exact s.wf.ot a z vs
  · have all : ∀ {l : Gh} {m : Wd}, (∀ a, WA l a → WA g a) → Paired (W1 K H) l m → Paired (W1 K (upd H p (.lst ys))) l m := by
      intro l m hl h
      induction h with
      | nil => exact .nil
      | @cons o x l1 l2 h t ih =>
        refine .cons ?_ (ih fun a z => hl a (by obtain ⟨o', ho, ha⟩ := z; exact ⟨o', List.mem_cons_of_mem _ ho, ha⟩))
        have ne : ∀ a ∈ o.adr, a ≠ p := fun a ha z => n (by rw [← z]; exact hl a ⟨o, List.mem_cons_self, ha⟩)
        cases o with
        | drw a b => cases x with
          | drw ns c => exact ⟨by rw [upd_ne (ne a (by simp [GO.adr]))]; exact h.1, by rw [upd_ne (ne b (by simp [GO.adr]))]; exact h.2⟩
          | orc o => exact h.elim
          | scr ns => exact h.elim
        | scr a => cases x with
          | drw ns c => exact h.elim
          | orc o => exact h.elim
          | scr ns => exact h.elim (fun ⟨o, q⟩ => .inl ⟨o, by rw [upd_ne (fun z => by rw [z, hp] at q; cases q)]; exact q⟩) .inr
    exact all (fun _ z => z) s.wr.pr
theorem Evo.mut {H0 H : Hp} {O0 O : Os} {g0 g : Gh} (e : Evo H0 O0 g0 H O g) {p : Addr} {u : HO} (h0 : H0 p = none) : Evo H0 O0 g0 (upd H p u) O g where
  keep := fun a o h n => by rw [upd_ne (ne_of_none h h0)]; exact e.keep a o h n
  still := fun a h => by
    by_cases q : a = p
    · rw [q, upd_same]; simp
    · rw [upd_ne q]; exact e.still a h
  omono := e.omono
  onew := e.onew
  gpre := e.gpre
  gnew := e.gnew
theorem EvoS.mut {H : Hp} {O : Os} {g : Gh} {p : Addr} {u : HO} (o : O p) : EvoS H O g (upd H p u) O g where
  keep := fun a x h n => by rw [upd_ne (fun z => n (by rw [z]; exact o))]; exact h
  still := fun a h => by
    by_cases q : a = p
    · rw [q, upd_same]; simp
    · rw [upd_ne q]; exact h
  onew := fun _ z => .inl z
  gpre := List.prefix_refl _
theorem EvoS.rem {H : Hp} {O : Os} {g : Gh} {p : Addr} : EvoS H O g H (remO O p) g := ⟨fun _ _ h _ => h, fun _ h => h, fun _ z => .inl z.1, List.prefix_refl _⟩

/-! ### the slots -/
def SlR1 (g : Gh) (O : Os) (H : Hp) (v : V) : RV → Prop
  | .val d => Rep g O H v d
  | .own ds => ∃ a, v = .ref a ∧ O a ∧ ¬ WA g a ∧ LAt g O H a ds
  | .bor _ => False
structure SRep (g : Gh) (O : Os) (H : Hp) (σ : L2.St) (s : Sl) : Prop where
  len : s.length = σ.length
  at' : ∀ (i : Nat) (r : RV), s[i]? = some (some r) → ∃ v, σ[i]? = some (some v) ∧ SlR1 g O H v r
  ap : ∀ (i j : Nat) (a : Addr) (ds es : List D), i ≠ j → s[i]? = some (some (.own ds)) → s[j]? = some (some (.own es)) → σ[i]? = some (some (.ref a)) → σ[j]? ≠ some (some (.ref a))
theorem St3.slot {K : PySem.W.Frag} {H H' : Hp} {O O' : Os} {g g' : Gh} {w : Wd} (s : St3 K H O g w) (e : Evo H O g H' O' g') {v : V} {r : RV} (h : SlR1 g O H v r) : SlR1 g' O' H' v r := by
  cases r with
  | val d => exact s.rep e h
  | own ds => obtain ⟨a, q, o, n, l⟩ := h; exact ⟨a, q, e.omono a o, WA.of_evo e l.al n, s.lat e n l⟩
  | bor ds => exact h
theorem SRep.evo {K : PySem.W.Frag} {H H' : Hp} {O O' : Os} {g g' : Gh} {w : Wd} {σ : L2.St} {sl : Sl} (r : SRep g O H σ sl) (s : St3 K H O g w) (e : Evo H O g H' O' g') : SRep g' O' H' σ sl :=
  ⟨r.len, fun i v h => by
    obtain ⟨x, h1, h2⟩ := r.at' i v h
    exact ⟨x, h1, s.slot e h2⟩, r.ap⟩

/-! ### what is to be shown -/
def Pst {α : Type} (K : PySem.W.Frag) (H : Hp) (O : Os) (g : Gh) (m : R α) (C : α → Wd → Hp → Os → Gh → Prop) : Prop := match m with
  | .ok a w => ∀ H' O' g', Evo H O g H' O' g' → St3 K H' O' g' w → C a w H' O' g'
  | .exc _ _ => False
  | .bad => False
theorem Pst.mono {α : Type} {K : PySem.W.Frag} {H : Hp} {O : Os} {g : Gh} {m : R α} {C C' : α → Wd → Hp → Os → Gh → Prop} (h : Pst K H O g m C) (f : ∀ a w H' O' g', Evo H O g H' O' g' → St3 K H' O' g' w → C a w H' O' g' → C' a w H' O' g') : Pst K H O g m C' := by
  cases m with
  | ok a w => exact fun H' O' g' e s => f _ _ _ _ _ e s (h H' O' g' e s)
  | exc c w => exact h
  | bad => exact h
/-- from any later state on -/
def Nxt {β : Type} (K : PySem.W.Frag) (H : Hp) (O : Os) (g : Gh) (m : R β) (w : Wd) (C : β → Wd → Hp → Os → Gh → Prop) : Prop := ∀ H' O' g', Evo H O g H' O' g' → St3 K H' O' g' w → Pst K H' O' g' m C
theorem Pst.nxt {β : Type} {K : PySem.W.Frag} {H : Hp} {O : Os} {g : Gh} {m : R β} {w : Wd} {C : β → Wd → Hp → Os → Gh → Prop} (h : Pst K H O g m C) : Nxt K H O g m w C := by
  intro H' O' g' e s
  cases m with
  | ok b w' => exact fun H2 O2 g2 e2 s2 => h H2 O2 g2 (e.trans e2) s2
  | exc c w' => exact h
  | bad => exact h
theorem Pst.bind {α β : Type} {K : PySem.W.Frag} {H : Hp} {O : Os} {g : Gh} {m : R α} {f : α → Wd → R β} {C : β → Wd → Hp → Os → Gh → Prop} (h : Pst K H O g (m.bind f) C) : Pst K H O g m (fun a w _ _ _ => Nxt K H O g (f a w) w C) := by
  cases m with
  | ok a w =>
    intro H' O' g' e s
    have h' : Pst K H O g (f a w) C := h
    exact h'.nxt
  | exc c w => exact h
  | bad => exact h
theorem Pst.of {α : Type} {K : PySem.W.Frag} {H : Hp} {O : Os} {g : Gh} {m : Option α} {w : Wd} {C : α → Wd → Hp → Os → Gh → Prop} (h : Pst K H O g (R.of m w) C) : ∃ a, m = some a ∧ Pst K H O g (R.ok a w) C := by
  cases m with
  | none => exact h.elim
  | some a => exact ⟨a, rfl, h⟩
/-- the end of an expression: its value's reading -/
def CV (H : Hp) (Q : VK) : RV → Wd → Hp → Os → Gh → Prop := fun r _ H' O' g' => ∀ v, RepV g' O' H H' v r → Q v H'
/-- the reading of an expression, by the interpreter -/
def tE (K : PySem.W.Frag) (n : Nat) (G : Cn) (e : Expr) : TE := fun σ H Q => ∃ s O g w, SRep g O H σ s ∧ St3 K H O g w ∧ Pst K H O g (ev n G s e w) (CV H Q)
end TM

namespace TM
open PySem PySem.Spec PyProof.Rows L2

theorem cap_line : cap ≤ sizeLine := by rw [sizeLine_eq]; decide
theorem Reps.length {g : Gh} {O : Os} {H : Hp} : ∀ {vs : List V} {ds : List D}, Reps g O H vs ds → vs.length = ds.length
  | _, _, .nil => rfl
  | _, _, .cons _ b => by simp [Reps.length b]
theorem Reps.append {g : Gh} {O : Os} {H : Hp} : ∀ {vs us : List V} {ds es : List D}, Reps g O H vs ds → Reps g O H us es → Reps g O H (vs ++ us) (ds ++ es)
  | _, _, _, _, .nil, q => q
  | _, _, _, _, .cons a b, q => .cons a (Reps.append b q)
theorem Reps.take {g : Gh} {O : Os} {H : Hp} : ∀ {vs : List V} {ds : List D} (n : Nat), Reps g O H vs ds → Reps g O H (vs.take n) (ds.take n)
  | _, _, 0, _ => by simp; exact .nil
  | _, _, _ + 1, .nil => by simp; exact .nil
  | _, _, n + 1, .cons a b => by simp; exact .cons a (Reps.take n b)
theorem Reps.drop {g : Gh} {O : Os} {H : Hp} : ∀ {vs : List V} {ds : List D} (n : Nat), Reps g O H vs ds → Reps g O H (vs.drop n) (ds.drop n)
  | _, _, 0, h => by simpa using h
  | _, _, _ + 1, .nil => by simp; exact .nil
  | _, _, n + 1, .cons a b => by simp; exact Reps.drop n b
theorem Reps.get {g : Gh} {O : Os} {H : Hp} : ∀ {vs : List V} {ds : List D} {i : Nat} {d : D}, Reps g O H vs ds → ds[i]? = some d → ∃ v, vs[i]? = some v ∧ Rep g O H v d
  | _, _, _, _, .nil, e => by simp at e
  | _, _, 0, _, .cons a b, e => by simp at e; subst e; exact ⟨_, rfl, a⟩
  | _, _, i + 1, d, .cons a b, e => by
    obtain ⟨v, h1, h2⟩ := Reps.get (i := i) (d := d) b (by simpa using e)
    exact ⟨v, by simpa using h1, h2⟩
theorem Reps.get' {g : Gh} {O : Os} {H : Hp} : ∀ {vs : List V} {ds : List D} {i : Nat} {v : V}, Reps g O H vs ds → vs[i]? = some v → ∃ d, ds[i]? = some d ∧ Rep g O H v d
  | _, _, _, _, .nil, e => by simp at e
  | _, _, 0, _, .cons a b, e => by simp at e; subst e; exact ⟨_, rfl, a⟩
  | _, _, i + 1, v, .cons a b, e => by
    obtain ⟨d, h1, h2⟩ := Reps.get' (i := i) (v := v) b (by simpa using e)
    exact ⟨d, by simpa using h1, h2⟩
theorem Reps.set {g : Gh} {O : Os} {H : Hp} {v : V} {d : D} (r : Rep g O H v d) : ∀ {vs : List V} {ds : List D} (i : Nat), Reps g O H vs ds → Reps g O H (vs.set i v) (ds.set i d)
  | _, _, _, .nil => .nil
  | _, _, 0, .cons a b => .cons r b
  | _, _, i + 1, .cons a b => .cons a (Reps.set r i b)
theorem Reps.reverse {g : Gh} {O : Os} {H : Hp} : ∀ {vs : List V} {ds : List D}, Reps g O H vs ds → Reps g O H vs.reverse ds.reverse
  | _, _, .nil => by simp; exact .nil
  | _, _, .cons a b => by simp; exact Reps.append (Reps.reverse b) (.cons a .nil)
theorem Reps.eraseIdx {g : Gh} {O : Os} {H : Hp} : ∀ {vs : List V} {ds : List D} (i : Nat), Reps g O H vs ds → Reps g O H (vs.eraseIdx i) (ds.eraseIdx i)
  | _, _, _, .nil => by simp; exact .nil
  | _, _, 0, .cons a b => by simp; exact b
  | _, _, i + 1, .cons a b => by simp; exact .cons a (Reps.eraseIdx i b)
theorem Reps.rep {g : Gh} {O : Os} {H : Hp} {vs : List V} {ds : List D} (r : Reps g O H vs ds) : ∀ k : Nat, Reps g O H (List.replicate k vs).flatten (List.replicate k ds).flatten
  | 0 => by simp; exact .nil
  | k + 1 => by rw [List.replicate_succ, List.replicate_succ, List.flatten_cons, List.flatten_cons]; exact r.append (r.rep k)
theorem Reps.cut {g : Gh} {O : Os} {H : Hp} {vs : List V} {ds : List D} (r : Reps g O H vs ds) (lo hi : Option Int) : Reps g O H (cutV vs lo hi) (cut ds lo hi) := by
  unfold cutV TM.cut
  rw [r.length]
  exact (r.drop _).take _
theorem Reps.ints {g : Gh} {O : Os} {H : Hp} : ∀ {vs : List V} {ds : List D} {ns : List Int}, Reps g O H vs ds → asInts ds = some ns → vs = ns.map V.int
  | _, _, ns, .nil, e => by
    have e' : ([] : List Int) = ns := Option.some.inj e
    subst e'; rfl
  | _, _, ns, .cons (d := d) a b, e => by
    cases d with
    | int i =>
      cases a
      simp only [asInts, Option.map_eq_some_iff] at e
      obtain ⟨ms, e1, rfl⟩ := e
      rw [Reps.ints b e1]; rfl
    | _ => simp [asInts] at e
theorem reps_ints {g : Gh} {O : Os} {H : Hp} : ∀ ns : List Int, Reps g O H (ns.map V.int) (ns.map .int)
  | [] => .nil
  | n :: r => .cons (.int n) (reps_ints r)
theorem Reps.bools {g : Gh} {O : Os} {H : Hp} : ∀ {vs : List V} {ds : List D} {ns : List Bool}, Reps g O H vs ds → asBools ds = some ns → vs = ns.map V.bl
  | _, _, ns, .nil, e => by
    have e' : ([] : List Bool) = ns := Option.some.inj e
    subst e'; rfl
  | _, _, ns, .cons (d := d) a b, e => by
    cases d with
    | bool i =>
      cases a
      simp only [asBools, Option.map_eq_some_iff] at e
      obtain ⟨ms, e1, rfl⟩ := e
      rw [Reps.bools b e1]; rfl
    | _ => simp [asBools] at e

/-! ### results -/
section
variable {K : PySem.W.Frag} {H H0 : Hp} {O : Os} {g : Gh} {w : Wd} {Q : VK}
theorem mkOwn (st : St3 K H O g w) {p : Addr} (hp : H p = none) (h0 : H0 p = none) {vs : List V} {ds : List D} (r : Reps g O H vs ds) : RepV g (addO O p) H0 (upd H p (.lst vs)) (.ref p) (.own ds) :=
  ⟨p, rfl, .inr rfl, (st.wf.fresh hp).2, h0, vs, upd_same, st.reps (Evo.newOwn st.wf hp) r⟩
theorem endOwn {ds : List D} {vs : List V} (st : St3 K H O g w) (hb : ∀ p, H p = none → H0 p = none) (r : Reps g O H vs ds) (h : Pst K H O g (R.ok (.own ds) w) (CV H0 Q)) {p : Addr} (hp : H p = none) : Q (.ref p) (upd H p (.lst vs)) :=
  h _ _ _ (Evo.newOwn st.wf hp) (st.newOwn hp) _ (mkOwn st hp (hb p hp) r)
theorem endTup {ds : List D} {vs : List V} (st : St3 K H O g w) (r : Reps g O H vs ds) (h : Pst K H O g (R.ok (.val (.tuple ds)) w) (CV H0 Q)) {p : Addr} (hp : H p = none) : Q (.ref p) (upd H p (.tup vs)) :=
  h _ _ _ (Evo.newTup st.wf hp) (st.newTup hp) _ (Rep.tup upd_same (st.reps (Evo.newTup st.wf hp) r))
theorem endVal {d : D} {v : V} (st : St3 K H O g w) (r : Rep g O H v d) (h : Pst K H O g (R.ok (.val d) w) (CV H0 Q)) : Q v H := h _ _ _ Evo.refl st _ r
end

/-! ### operators by values, as weak as can be -/
def rW (X : Cx) (f : Value → Value → Sem Value) : R2 := fun x y H Q => ∀ (pins : List (Addr × Obj)) (s : Shared) (σ : L2.St) (v u : Value), Inv X pins σ H s → RelV x v → RelV y u → wpAny (model X.prog X.w) X.A (f v u) (EP X pins σ Q) X.xe s
theorem opW {X : Cx} {f : Value → Value → Sem Value} : OpR X f (rW X f) := fun pins s σ H x y v u Q I r1 r2 h => h pins s σ v u I r1 r2
theorem OpR.w {X : Cx} {f : Value → Value → Sem Value} {r : R2} (h : OpR X f r) {x y : V} {H : Hp} {Q : VK} (q : r x y H Q) : rW X f x y H Q := fun pins s σ v u I r1 r2 => h pins s σ H x y v u Q I r1 r2 q
def uW (X : Cx) (f : Value → Sem Value) : V → Hp → VK → Prop := fun x H Q => ∀ (pins : List (Addr × Obj)) (s : Shared) (σ : L2.St) (v : Value), Inv X pins σ H s → RelV x v → wpAny (model X.prog X.w) X.A (f v) (EP X pins σ Q) X.xe s
theorem unW' {X : Cx} {f : Value → Sem Value} : UnR X f (uW X f) := fun pins s σ H x v Q I r1 h => h pins s σ v I r1
def cW (X : Cx) (f : Value) : List V → Hp → VK → Prop := fun xs H Q => ∀ (pins : List (Addr × Obj)) (s : Shared) (σ : L2.St) (us : List Value), Inv X pins σ H s → Vals xs us → wpAny (model X.prog X.w) X.A (call f us) (EP X pins σ Q) X.xe s
theorem calW {X : Cx} {f : Value} : CallR X f (cW X f) := fun pins s σ H xs us Q I r1 h => h pins s σ us I r1
theorem CallR.w {X : Cx} {f : Value} {r : List V → Hp → VK → Prop} (h : CallR X f r) {xs : List V} {H : Hp} {Q : VK} (q : r xs H Q) : cW X f xs H Q := fun pins s σ us I r1 => h pins s σ H xs us Q I r1 q
def iW (X : Cx) : R2 := fun x y H Q => ∀ (value slice : Expr) (pins : List (Addr × Obj)) (s : Shared) (σ : L2.St) (v u : Value), Inv X pins σ H s → RelV x v → RelV y u → subscripted slice false v u = operate [v, u] (getItem v u) → wpAny (model X.prog X.w) X.A (subscriptTail value slice v u) (EP X pins σ Q) X.xe s
theorem ixW {X : Cx} : IxR X (iW X) := fun value slice pins s σ H x y v u Q I r1 r2 h hs => h value slice pins s σ v u I r1 r2 hs
theorem IxR.w {X : Cx} {r : R2} (h : IxR X r) {x y : V} {H : Hp} {Q : VK} (q : r x y H Q) : iW X x y H Q := fun value slice pins s σ v u I r1 r2 hs => h value slice pins s σ H x y v u Q I r1 r2 q hs
def sW (X : Cx) : V → Option Int → Option Int → Hp → VK → Prop := fun x lo hi H Q => ∀ (pins : List (Addr × Obj)) (s : Shared) (σ : L2.St) (v vl vu : Value) (sl : Addr), Inv X pins σ H s → RelV x v → s.heap.IsSliceOf sl vl vu .none → IsPart vl lo → IsPart vu hi →
    ∃ T id, typeLookup (.type T) "__getitem__" = pure (some (.builtin id)) ∧ s.TypeIs v T ∧ wpAny (model X.prog X.w) X.A (getItem v (.ref sl)) (EP X pins σ Q) X.xe s
theorem slW {X : Cx} : SlR X (sW X) := fun pins s σ H x v vl vu lo hi sl Q I r1 h2 h3 h4 h => h pins s σ v vl vu sl I r1 h2 h3 h4
theorem SlR.w {X : Cx} {r : V → Option Int → Option Int → Hp → VK → Prop} (h : SlR X r) {x : V} {lo hi : Option Int} {H : Hp} {Q : VK} (q : r x lo hi H Q) : sW X x lo hi H Q := fun pins s σ v vl vu sl I r1 h2 h3 h4 => h pins s σ H x v vl vu lo hi sl Q I r1 h2 h3 h4 q
def mW (X : Cx) (id : String) : V → List V → Hp → VK → Prop := fun x xs H Q => ∀ (pins : List (Addr × Obj)) (s : Shared) (σ : L2.St) (v : Value) (us : List Value), Inv X pins σ H s → RelV x v → Vals xs us → wpAny (model X.prog X.w) X.A (call (.builtin id) (v :: us)) (EP X pins σ Q) X.xe s
theorem mtW {X : Cx} {id : String} : MtR X id (mW X id) := fun pins s σ H x xs v us Q I r1 r2 h => h pins s σ v us I r1 r2
theorem MtR.w {X : Cx} {id : String} {r : V → List V → Hp → VK → Prop} (h : MtR X id r) {x : V} {xs : List V} {H : Hp} {Q : VK} (q : r x xs H Q) : mW X id x xs H Q := fun pins s σ v us I r1 r2 => h pins s σ H x xs v us Q I r1 r2 q

section
variable {X : Cx} {H H0 : Hp} {O : Os} {g : Gh} {w : Wd} {Q : VK} {v u : V} {rx ry rz : RV}
theorem addL_ok (st : St3 X.K H O g w) (hb : ∀ p, H p = none → H0 p = none) (hx : RepB g O H v rx) (hy : RepB g O H u ry) (e : addL rx ry = some rz) (h : Pst X.K H O g (R.ok rz w) (CV H0 Q)) : rW X (binaryOp .Add) v u H Q := by
  unfold addL at e
  split at e
  · rename_i xs ys e1 e2
    split at e
    · rename_i hc
      cases e
      obtain ⟨a, rfl, vs, ha, ra⟩ := hx.lst e1
      obtain ⟨b, rfl, us, hb', rb⟩ := hy.lst e2
      refine OpR.w op_cat ⟨a, b, vs, us, rfl, rfl, ha, hb', ?_, fun p hp => endOwn st hb (ra.append rb) h hp⟩
      rw [ra.length, rb.length]
      exact Nat.le_trans hc cap_line
    · cases e
  · cases e
theorem repL_ok {k : Int} (st : St3 X.K H O g w) (hb : ∀ p, H p = none → H0 p = none) (hx : RepB g O H v rx) (e : repL rx k = some rz) (h : Pst X.K H O g (R.ok rz w) (CV H0 Q)) : rW X (binaryOp .Mult) v (.int k) H Q := by
  unfold repL at e
  split at e
  · rename_i xs e1
    split at e
    · rename_i hc
      cases e
      simp only [Bool.and_eq_true, decide_eq_true_eq] at hc
      obtain ⟨a, rfl, vs, ha, ra⟩ := hx.lst e1
      have hl : vs.length * k.toNat ≤ sizeLine := by
        rw [ra.length]
        exact Nat.le_trans hc.2 cap_line
      exact OpR.w op_rep ⟨a, k, vs, rfl, rfl, ha, hc.1.1, hc.1.2, hl, fun p hp => endOwn st hb (ra.rep k.toNat) h hp⟩
    · cases e
  · cases e
theorem mulOk_c {i j : Int} (h : mulOk i j = true) : CMul i j := by
  unfold mulOk at h
  simp only [Bool.or_eq_true, Bool.and_eq_true, decide_eq_true_eq] at h
  exact h
theorem divOk_c {i j : Int} (h : divOk j = true) : CDivN i j := by
  unfold divOk at h
  simp only [Bool.and_eq_true, decide_eq_true_eq] at h
  exact h
theorem powOk_c {i j : Int} (h : powOk i j = true) : CPow i j := by
  unfold powOk at h
  simp only [Bool.and_eq_true, decide_eq_true_eq] at h
  exact ⟨h.1.1, h.1.2, h.2⟩
theorem binop_ok {op : Operator} (st : St3 X.K H O g w) (hb : ∀ p, H p = none → H0 p = none) (hx : RepB g O H v rx) (hy : RepB g O H u ry) (e : binop op rx ry = some rz) (h : Pst X.K H O g (R.ok rz w) (CV H0 Q)) : rW X (binaryOp op) v u H Q := by
  unfold binop at e
  split at e
  · cases e; cases hx; cases hy
    exact OpR.w op_add ⟨_, _, rfl, rfl, endVal st (.int _) h⟩
  · cases hx; cases hy
    split at e
    · rename_i hc
      cases e
      exact OpR.w op_add_str ⟨_, _, rfl, rfl, Nat.le_trans hc cap_line, endVal st (.str _) h⟩
    · cases e
  · rename_i xs ys
    split at e
    · rename_i hc
      cases e
      have hx' : Rep g O H v (.tuple xs) := hx
      have hy' : Rep g O H u (.tuple ys) := hy
      cases hx' with
      | tup h1 r1 =>
        cases hy' with
        | tup h2 r2 =>
          refine OpR.w op_catA ⟨_, _, _, _, rfl, rfl, SqT.of h1, SqT.of h2, ?_, fun z => ?_, fun z z2 => ?_, fun _ _ p hp => endTup st (r1.append r2) h hp⟩
          · rw [r1.length, r2.length]
            exact Nat.le_trans hc cap_line
          · subst z
            cases r1
            exact endVal st (.tup h2 r2) h
          · subst z2
            cases r2
            rw [List.append_nil] at h
            exact endVal st (.tup h1 r1) h
    · cases e
  · exact addL_ok st hb hx hy e h
  · cases e; cases hx; cases hy
    exact OpR.w op_sub ⟨_, _, rfl, rfl, endVal st (.int _) h⟩
  · cases hx; cases hy
    split at e
    · rename_i hc
      cases e
      exact OpR.w op_mul ⟨_, _, rfl, rfl, mulOk_c hc, endVal st (.int _) h⟩
    · cases e
  · cases hy
    exact repL_ok st hb hx e h
  · cases hx; cases hy
    split at e
    · rename_i hc
      cases e
      exact OpR.w op_fdivN ⟨_, _, rfl, rfl, divOk_c hc, endVal st (.int _) h⟩
    · cases e
  · cases hx; cases hy
    split at e
    · rename_i hc
      cases e
      exact OpR.w op_modN ⟨_, _, rfl, rfl, of_decide_eq_true hc, endVal st (.int _) h⟩
    · cases e
  · cases hx; cases hy
    split at e
    · rename_i hc
      cases e
      exact OpR.w op_pow ⟨_, _, rfl, rfl, powOk_c hc, endVal st (.int _) h⟩
    · cases e
  · cases e
end
end TM

namespace TM
open PySem PySem.Spec PyProof.Rows L2

/-! ### comparisons -/
theorem okD_all {n : Nat} (ih : ∀ d, okD n d = true → d.canLay0 = true ∧ d.depth ≤ n) : ∀ xs : List D, xs.all (okD n) = true → PyData.canLayAll0 xs = true ∧ PyData.depthAll xs ≤ n
  | [], _ => ⟨by simp [PyData.canLayAll0], by simp [PyData.depthAll]⟩
  | x :: r, h => by
    simp only [List.all_cons, Bool.and_eq_true] at h
    obtain ⟨a1, a2⟩ := ih x h.1
    obtain ⟨b1, b2⟩ := okD_all ih r h.2
    exact ⟨by simp [PyData.canLayAll0, a1, b1], by simp only [PyData.depthAll]; omega⟩
theorem okD_lay : ∀ (n : Nat) (d : D), okD n d = true → d.canLay0 = true ∧ d.depth ≤ n
  | n, .none, _ => ⟨by simp [PyData.canLay0], by simp [PyData.depth]⟩
  | n, .bool b, _ => ⟨by simp [PyData.canLay0], by simp [PyData.depth]⟩
  | n, .int i, _ => ⟨by simp [PyData.canLay0], by simp [PyData.depth]⟩
  | n, .str x, h => ⟨by
      have h' : PyData.strOk x = true := by simpa [okD] using h
      simp [PyData.canLay0, h'], by simp [PyData.depth]⟩
  | 0, .list xs, h => by simp [okD] at h
  | 0, .tuple xs, h => by simp [okD] at h
  | n + 1, .list xs, h => by
    have h' : xs.all (okD n) = true := by rw [← h]; rfl
    obtain ⟨a, b⟩ := okD_all (okD_lay n) xs h'
    exact ⟨by simp [PyData.canLay0, a], by simp only [PyData.depth]; omega⟩
  | n + 1, .tuple xs, h => by
    have h' : xs.all (okD n) = true := by rw [← h]; rfl
    obtain ⟨a, b⟩ := okD_all (okD_lay n) xs h'
    exact ⟨by simp [PyData.canLay0, a], by simp only [PyData.depth]; omega⟩
  | 0, .dict kv, h => by simp [okD] at h
  | n + 1, .dict kv, h => by simp [okD] at h
theorem okD_shaped {n : Nat} {d : D} (hn : n ≤ 64) (h : okD n d = true) : SeqAt.shaped d = true := by
  obtain ⟨a, b⟩ := okD_lay n d h
  unfold SeqAt.shaped
  rw [a, decide_eq_true (Nat.le_trans b hn)]
  rfl
mutual
theorem Rep.dp {K : PySem.W.Frag} {g : Gh} {O : Os} {H : Hp} : ∀ {v : V} {d : D}, Rep g O H v d → d.canLay0 = true → Dp K H v d
  | _, _, .non, _ => .non
  | _, _, .bl b, _ => .bl b
  | _, _, .int i, _ => .int i
  | _, _, .str x, _ => .str x
  | _, _, .lst h n r, c => .lst (SqL.of h) (Reps.dp r (by simpa [PyData.canLay0] using c))
  | _, _, .tup h r, c => .tup (SqT.of h) (Reps.dp r (by simpa [PyData.canLay0] using c))
  | _, _, .spc h, c => by simp [PyData.canLay0] at c
theorem Reps.dp {K : PySem.W.Frag} {g : Gh} {O : Os} {H : Hp} : ∀ {vs : List V} {ds : List D}, Reps g O H vs ds → PyData.canLayAll0 ds = true → DpAll K H vs ds
  | _, _, .nil, _ => .nil
  | _, _, .cons a b, c => by
    simp only [PyData.canLayAll0, Bool.and_eq_true] at c
    exact .cons (Rep.dp a c.1) (Reps.dp b c.2)
end
theorem RepB.dp {K : PySem.W.Frag} {g : Gh} {O : Os} {H : Hp} {v : V} {r : RV} (h : RepB g O H v r) (c : r.dat.canLay0 = true) : Dp K H v r.dat := by
  cases r with
  | val d => exact Rep.dp h c
  | own ds =>
    obtain ⟨a, rfl, _, vs, ha, r⟩ := h
    exact .lst (SqL.of ha) (r.dp (by simpa [RV.dat, PyData.canLay0] using c))
  | bor ds =>
    obtain ⟨a, rfl, _, vs, ha, r⟩ := h
    exact .lst (SqL.of ha) (r.dp (by simpa [RV.dat, PyData.canLay0] using c))
theorem Rep.flat {g : Gh} {O : Os} {H : Hp} {v : V} {d : D} (r : Rep g O H v d) (f : flatD d = true) : flatV v = true := by
  cases r <;> first | rfl | (exact absurd f (by decide)) | cases f
theorem Reps.flat {g : Gh} {O : Os} {H : Hp} : ∀ {vs : List V} {ds : List D}, Reps g O H vs ds → ds.all flatD = true → vs.all flatV = true
  | _, _, .nil, _ => rfl
  | _, _, .cons a b, c => by
    simp only [List.all_cons, Bool.and_eq_true] at c
    simp only [List.all_cons, Bool.and_eq_true]
    exact ⟨a.flat c.1, Reps.flat b c.2⟩
theorem Rep.eqV {g : Gh} {O : Os} {H : Hp} {v u : V} {d e : D} (r : Rep g O H v d) (q : Rep g O H u e) (f : flatD d = true) (f' : flatD e = true) : L2.eqV v u = PyData.eqv d e := by
  cases r <;> first | cases f | skip
  all_goals (cases q <;> first | rfl | cases f')
theorem Reps.inV {g : Gh} {O : Os} {H : Hp} {u : V} {e : D} (q : Rep g O H u e) (f' : flatD e = true) : ∀ {vs : List V} {ds : List D}, Reps g O H vs ds → ds.all flatD = true → L2.inV u vs = ds.any fun z => PyData.eqv z e
  | _, _, .nil, _ => rfl
  | _, _, .cons a b, c => by
    simp only [List.all_cons, Bool.and_eq_true] at c
    have h := Reps.inV q f' b c.2
    unfold L2.inV at h ⊢
    simp only [List.any_cons]
    rw [a.eqV q c.1 f', h]
theorem RepB.flat {g : Gh} {O : Os} {H : Hp} {v : V} {r : RV} (h : RepB g O H v r) (f : flatD r.dat = true) : Rep g O H v r.dat := by
  cases r with
  | val d => exact h
  | own ds => cases f
  | bor ds => cases f
section
variable {X : Cx} {H : Hp} {O : Os} {g : Gh} {Q : VK} {v u : V} {rx ry : RV} {k : Nat}
theorem inOp_ok {b : Bool} (hr : Room k X.A) (hx : RepB g O H v rx) (hy : RepB g O H u ry) (e : inOp rx ry = some b) : (Q (.bl b) H → rW X (compareOp .In) v u H Q) ∧ (Q (.bl (!b)) H → rW X (compareOp .NotIn) v u H Q) := by
  have hu : X.A.units + 65 < cLine := by have := hr.un; omega
  unfold inOp at e
  split at e
  · rename_i ds
    split at e
    · rename_i hc
      cases e
      simp only [Bool.and_eq_true] at hc
      have hx' := hx.flat hc.1
      have hy' : Rep g O H u (.tuple ds) := hy
      cases hy' with
      | tup h1 r1 =>
        have i := Reps.inV hx' hc.1 r1 hc.2
        refine ⟨fun q => OpR.w op_in_seq ⟨_, _, rfl, .inr (SqT.of h1), hx'.flat hc.1, r1.flat hc.2, ?_⟩, fun q => OpR.w op_notIn_seq ⟨_, _, rfl, .inr (SqT.of h1), hx'.flat hc.1, r1.flat hc.2, ?_⟩⟩
        · show Q (.bl (if false = true then _ else _)) H
          rw [if_neg (by decide), i]; exact q
        · show Q (.bl (if true = true then _ else _)) H
          rw [if_pos rfl, i]; exact q
    · cases e
  · cases e
  · split at e
    · rename_i ds e1
      split at e
      · rename_i hc
        cases e
        simp only [Bool.and_eq_true] at hc
        obtain ⟨a, rfl, vs, ha, ra⟩ := hy.lst e1
        have c1 := okD_lay 7 _ hc.1
        have c2 := okD_lay 8 _ hc.2
        have d1 : Dp X.K H v rx.dat := hx.dp c1.1
        have d2 : Dp X.K H (.ref a) (.list ds) := .lst (SqL.of ha) (ra.dp (by simpa [PyData.canLay0] using c2.1))
        exact ⟨fun q => OpR.w (op_inD hu) ⟨_, _, d1, d2, okD_shaped (by decide) hc.1, okD_shaped (by decide) hc.2, q⟩, fun q => OpR.w (op_notInD hu) ⟨_, _, d1, d2, okD_shaped (by decide) hc.1, okD_shaped (by decide) hc.2, q⟩⟩
      · cases e
    · cases e
theorem isOp_ok {b : Bool} (hx : RepB g O H v rx) (hy : RepB g O H u ry) (e : isOp rx ry = some b) : (Q (.bl b) H → rW X (compareOp .Is) v u H Q) ∧ (Q (.bl (!b)) H → rW X (compareOp .IsNot) v u H Q) := by
  have non : ∀ {b : Bool}, u = .non → decide (v = .non) = b → (Q (.bl b) H → rW X (compareOp .Is) v u H Q) ∧ (Q (.bl (!b)) H → rW X (compareOp .IsNot) v u H Q) := fun {b} h1 h2 => by
    subst h2
    exact ⟨fun q => OpR.w op_isN ⟨h1, q⟩, fun q => OpR.w op_notN ⟨h1, q⟩⟩
  unfold isOp at e
  split at e
  · cases e; cases hx; cases hy; exact non rfl (by decide)
  · cases e; cases hx; cases hy
    exact ⟨fun q => OpR.w op_isBl ⟨_, _, rfl, rfl, q⟩, fun q => OpR.w op_notBl ⟨_, _, rfl, rfl, q⟩⟩
  · cases e; cases hx; cases hy; exact non rfl (by simp)
  · cases e; cases hx; cases hy; exact non rfl (by simp)
  · cases e; cases hx; cases hy; exact non rfl (by simp)
  · cases e; cases hy
    rename_i ds
    have hx' : Rep g O H v (.tuple ds) := hx
    cases hx'; exact non rfl (by simp)
  · cases e; cases hy
    rename_i ds
    have hx' : Rep g O H v (.list ds) := hx
    cases hx'; exact non rfl (by simp)
  · cases e; cases hy
    obtain ⟨a, rfl, _⟩ := hx
    exact non rfl (by simp)
  · cases e; cases hy
    obtain ⟨a, rfl, _⟩ := hx
    exact non rfl (by simp)
  · cases e
theorem cmpop_ok {op : CmpOp} {b : Bool} (hr : Room k X.A) (hx : RepB g O H v rx) (hy : RepB g O H u ry) (e : cmpop op rx ry = some b) (q : Q (.bl b) H) : rW X (compareOp op) v u H Q := by
  cases op with
  | Eq =>
    by_cases hc : eqvOk rx.dat ry.dat = true
    · simp only [cmpop] at e
      rw [if_pos hc] at e
      cases e
      unfold eqvOk at hc
      simp only [Bool.and_eq_true] at hc
      exact OpR.w (op_eqD hr.units) ⟨_, _, hx.dp (okD_lay 8 _ hc.1).1, hy.dp (okD_lay 8 _ hc.2).1, okD_shaped (by decide) hc.1, okD_shaped (by decide) hc.2, q⟩
    · simp only [cmpop] at e
      rw [if_neg hc] at e
      cases e
  | NotEq =>
    by_cases hc : eqvOk rx.dat ry.dat = true
    · simp only [cmpop] at e
      rw [if_pos hc] at e
      cases e
      unfold eqvOk at hc
      simp only [Bool.and_eq_true] at hc
      exact OpR.w (op_neD hr.units) ⟨_, _, hx.dp (okD_lay 8 _ hc.1).1, hy.dp (okD_lay 8 _ hc.2).1, okD_shaped (by decide) hc.1, okD_shaped (by decide) hc.2, q⟩
    · simp only [cmpop] at e
      rw [if_neg hc] at e
      cases e
  | Lt =>
    simp only [cmpop] at e
    split at e
    · cases e; cases hx; cases hy
      exact OpR.w op_lt ⟨_, _, rfl, rfl, q⟩
    · cases e
  | LtE =>
    simp only [cmpop] at e
    split at e
    · cases e; cases hx; cases hy
      exact OpR.w op_le ⟨_, _, rfl, rfl, q⟩
    · cases e
  | Gt =>
    simp only [cmpop] at e
    split at e
    · cases e; cases hx; cases hy
      exact OpR.w op_gt ⟨_, _, rfl, rfl, q⟩
    · cases e
  | GtE =>
    simp only [cmpop] at e
    split at e
    · cases e; cases hx; cases hy
      exact OpR.w op_ge ⟨_, _, rfl, rfl, q⟩
    · cases e
  | In => exact (inOp_ok hr hx hy e).1 q
  | NotIn =>
    simp only [cmpop, Option.map_eq_some_iff] at e
    obtain ⟨c, e1, rfl⟩ := e
    exact (inOp_ok hr hx hy e1).2 q
  | Is => exact (isOp_ok hx hy e).1 q
  | IsNot =>
    simp only [cmpop, Option.map_eq_some_iff] at e
    obtain ⟨c, e1, rfl⟩ := e
    exact (isOp_ok hx hy e1).2 q
end

/-! ### subscripts and slices -/
theorem Reps.atI {g : Gh} {O : Os} {H : Hp} {vs : List V} {ds : List D} {i : Int} {d : D} (r : Reps g O H vs ds) (e : L2.atI ds i = some d) : ∃ v, L2.atI vs i = some v ∧ Rep g O H v d := by
  unfold L2.atI at e ⊢
  rw [r.length]
  cases h : ixN ds.length i with
  | none => rw [h] at e; cases e
  | some j =>
    rw [h] at e
    obtain ⟨v, h1, h2⟩ := r.get (i := j) (d := d) e
    exact ⟨v, h1, h2⟩
section
variable {X : Cx} {H H0 : Hp} {O : Os} {g : Gh} {w : Wd} {Q : VK} {v u : V} {rx ry rz : RV}
theorem ixop_ok (st : St3 X.K H O g w) (hx : RepB g O H v rx) (hy : RepB g O H u ry) (e : ixop rx ry = some rz) (h : Pst X.K H O g (R.ok rz w) (CV H0 Q)) : iW X v u H Q := by
  unfold ixop at e
  split at e
  · rename_i i
    cases hy
    split at e
    · rename_i ds
      simp only [Option.map_eq_some_iff] at e
      obtain ⟨d, e1, rfl⟩ := e
      have hx' : Rep g O H v (.tuple ds) := hx
      cases hx' with
      | tup h1 r1 =>
        obtain ⟨z, h2, r2⟩ := r1.atI e1
        exact IxR.w ix_tup ⟨_, _, _, _, rfl, rfl, SqT.of h1, h2, endVal st r2 h⟩
    · cases e
    · split at e
      · rename_i ds e0
        simp only [Option.map_eq_some_iff] at e
        obtain ⟨d, e1, rfl⟩ := e
        obtain ⟨a, rfl, vs, ha, ra⟩ := hx.lst e0
        obtain ⟨z, h2, r2⟩ := ra.atI e1
        exact IxR.w ix_list ⟨_, _, _, _, rfl, rfl, SqL.of ha, h2, endVal st r2 h⟩
      · cases e
  · cases e
theorem cut_all {α : Type} (ds : List α) (lo hi : Option Int) (h : HT.sIx ds.length 0 lo = 0 ∧ HT.sIx ds.length ds.length hi = ds.length) : cut ds lo hi = ds := by
  unfold cut
  rw [h.1, h.2]
  simp
theorem slop_ok {lo hi : Option Int} (st : St3 X.K H O g w) (hb : ∀ p, H p = none → H0 p = none) (hx : RepB g O H v rx) (e : slop rx lo hi = some rz) (h : Pst X.K H O g (R.ok rz w) (CV H0 Q)) : sW X v lo hi H Q := by
  unfold slop at e
  split at e
  · rename_i ds
    cases e
    have hx' : Rep g O H v (.tuple ds) := hx
    cases hx' with
    | tup h1 r1 =>
      refine SlR.w sl_tupA ⟨_, _, rfl, SqT.of h1, fun z => ?_, fun _ p hp => endTup st (r1.cut lo hi) h hp⟩
      rw [r1.length] at z
      rw [cut_all ds lo hi z] at h
      exact endVal st (.tup h1 r1) h
  · split at e
    · rename_i hc
      cases e
      cases hx
      exact SlR.w sl_str ⟨_, rfl, Nat.le_trans hc cap_line, endVal st (.str _) h⟩
    · cases e
  · split at e
    · rename_i ds e0
      cases e
      obtain ⟨a, rfl, vs, ha, ra⟩ := hx.lst e0
      exact SlR.w sl_list ⟨_, _, rfl, SqL.of ha, fun p hp => endOwn st hb (ra.cut lo hi) h hp⟩
    · cases e
theorem unop_ok {op : UnaryOp} (st : St3 X.K H O g w) (hx : RepB g O H v rx) (e : unop op rx = some rz) (hn : op ≠ .Not) (h : Pst X.K H O g (R.ok rz w) (CV H0 Q)) : uW X (unaryOp op) v H Q := by
  unfold unop at e
  split at e
  · cases e; cases hx
    intro pins s σ u I r
    exact un_neg pins s σ H _ u Q I r ⟨_, rfl, endVal st (.int _) h⟩
  · exact absurd rfl hn
  · cases e
end
end TM

namespace TM
open PySem PySem.Spec PyProof.Rows L2

/-! ### the sorts -/
theorem ins_perm (x : Int) : ∀ l : List Int, (ins x l).Perm (x :: l)
  | [] => List.Perm.refl _
  | y :: r => by
    unfold ins
    split
    · exact List.Perm.refl _
    · exact (List.Perm.cons y (ins_perm x r)).trans (List.Perm.swap x y r)
theorem srt_perm : ∀ l : List Int, (srt l).Perm l
  | [] => List.Perm.refl _
  | x :: r => (ins_perm x (srt r)).trans (List.Perm.cons x (srt_perm r))
theorem ins_sorted (x : Int) : ∀ l : List Int, l.Pairwise (· ≤ ·) → (ins x l).Pairwise (· ≤ ·)
  | [], _ => by simp [ins]
  | y :: r, h => by
    unfold ins
    have hy := List.pairwise_cons.mp h
    split
    · rename_i hc
      refine List.pairwise_cons.mpr ⟨fun z hz => ?_, h⟩
      rcases List.mem_cons.mp hz with rfl | hz
      · exact hc
      · exact Int.le_trans hc (hy.1 z hz)
    · rename_i hc
      refine List.pairwise_cons.mpr ⟨fun z hz => ?_, ins_sorted x r hy.2⟩
      rcases List.mem_cons.mp ((ins_perm x r).mem_iff.mp hz) with rfl | hz
      · omega
      · exact hy.1 z hz
theorem srt_sorted : ∀ l : List Int, (srt l).Pairwise (· ≤ ·)
  | [] => .nil
  | x :: r => ins_sorted x _ (srt_sorted r)
theorem srt_uniq {a b : List Int} (hp : a.Perm b) (h : a.Pairwise (· ≤ ·)) : a = srt b := (hp.trans (srt_perm b).symm).eq_of_pairwise (fun x y _ _ h1 h2 => Int.le_antisymm h1 h2) h (srt_sorted b)
theorem srt_length (l : List Int) : (srt l).length = l.length := (srt_perm l).length_eq
theorem ple_iff {x y : Int × Int} : ple x y = true ↔ x.1 < y.1 ∨ (x.1 = y.1 ∧ x.2 ≤ y.2) := by
  unfold ple
  simp
theorem insP_perm (x : Int × Int) : ∀ l : List (Int × Int), (insP x l).Perm (x :: l)
  | [] => List.Perm.refl _
  | y :: r => by
    unfold insP
    split
    · exact List.Perm.refl _
    · exact (List.Perm.cons y (insP_perm x r)).trans (List.Perm.swap x y r)
theorem srtP_perm : ∀ l : List (Int × Int), (srtP l).Perm l
  | [] => List.Perm.refl _
  | x :: r => (insP_perm x (srtP r)).trans (List.Perm.cons x (srtP_perm r))
theorem insP_sorted (x : Int × Int) : ∀ l : List (Int × Int), l.Pairwise (fun a b => ple a b = true) → (insP x l).Pairwise (fun a b => ple a b = true)
  | [], _ => by simp [insP]
  | y :: r, h => by
    unfold insP
    have hy := List.pairwise_cons.mp h
    split
    · rename_i hc
      refine List.pairwise_cons.mpr ⟨fun z hz => ?_, h⟩
      rcases List.mem_cons.mp hz with rfl | hz
      · exact hc
      · have h1 := ple_iff.mp hc
        have h2 := ple_iff.mp (hy.1 z hz)
        exact ple_iff.mpr (by omega)
    · rename_i hc
      refine List.pairwise_cons.mpr ⟨fun z hz => ?_, insP_sorted x r hy.2⟩
      rcases List.mem_cons.mp ((insP_perm x r).mem_iff.mp hz) with rfl | hz
      · have h1 : ¬ (z.1 < y.1 ∨ (z.1 = y.1 ∧ z.2 ≤ y.2)) := fun q => hc (ple_iff.mpr q)
        exact ple_iff.mpr (by omega)
      · exact hy.1 z hz
theorem srtP_sorted : ∀ l : List (Int × Int), (srtP l).Pairwise (fun a b => ple a b = true)
  | [] => .nil
  | x :: r => insP_sorted x _ (srtP_sorted r)
theorem srtP_uniq {a b : List (Int × Int)} (hp : a.Perm b) (h : a.Pairwise (fun a b => ple a b = true)) : a = srtP b := (hp.trans (srtP_perm b).symm).eq_of_pairwise (fun x y _ _ h1 h2 => by
  have a1 := ple_iff.mp h1
  have a2 := ple_iff.mp h2
  exact Prod.ext (by omega) (by omega)) h (srtP_sorted b)
theorem minL_ok : ∀ {l : List Int} {m : Int}, minL l = some m → m ∈ l ∧ ∀ y ∈ l, m ≤ y
  | [], m, h => by simp [minL] at h
  | x :: r, m, h => by
    unfold minL at h
    cases e : minL r with
    | none =>
      rw [e] at h
      cases h
      cases r with
      | nil => exact ⟨by simp, by simp⟩
      | cons z r => simp only [minL] at e; split at e <;> cases e
    | some k =>
      rw [e] at h
      obtain ⟨h1, h2⟩ := minL_ok e
      have h' : (if x ≤ k then x else k) = m := Option.some.inj h
      split at h'
      · subst h'
        exact ⟨by simp, fun y hy => by
          rcases List.mem_cons.mp hy with rfl | hy
          · omega
          · have := h2 y hy; omega⟩
      · subst h'
        exact ⟨List.mem_cons_of_mem _ h1, fun y hy => by
          rcases List.mem_cons.mp hy with rfl | hy
          · omega
          · exact h2 y hy⟩
theorem maxL_ok : ∀ {l : List Int} {m : Int}, maxL l = some m → m ∈ l ∧ ∀ y ∈ l, y ≤ m
  | [], m, h => by simp [maxL] at h
  | x :: r, m, h => by
    unfold maxL at h
    cases e : maxL r with
    | none =>
      rw [e] at h
      cases h
      cases r with
      | nil => exact ⟨by simp, by simp⟩
      | cons z r => simp only [maxL] at e; split at e <;> cases e
    | some k =>
      rw [e] at h
      obtain ⟨h1, h2⟩ := maxL_ok e
      have h' : (if k ≤ x then x else k) = m := Option.some.inj h
      split at h'
      · subst h'
        exact ⟨by simp, fun y hy => by
          rcases List.mem_cons.mp hy with rfl | hy
          · omega
          · have := h2 y hy; omega⟩
      · subst h'
        exact ⟨List.mem_cons_of_mem _ h1, fun y hy => by
          rcases List.mem_cons.mp hy with rfl | hy
          · omega
          · exact h2 y hy⟩

/-! ### the builtins -/
def bltVal : Blt → Value
  | .len => .builtin "len"
  | .abs => .builtin "abs"
  | .sum => .builtin "sum"
  | .min => .builtin "min"
  | .max => .builtin "max"
  | .sorted => .builtin "sorted"
  | .list => .type "list"
  | .tuple => .type "tuple"
  | .str => .type "str"
  | .int => .type "int"
  | .all => .builtin "all"
  | .any => .builtin "any"
  | .range => .type "range"
  | .isinst => .builtin "isinstance"
abbrev RepBs (g : Gh) (O : Os) (H : Hp) : List V → List RV → Prop := Paired (RepB g O H)
theorem RepBs.one {g : Gh} {O : Os} {H : Hp} {vs : List V} {a : RV} (h : RepBs g O H vs [a]) : ∃ v, vs = [v] ∧ RepB g O H v a := by
  cases h with
  | cons h t => cases t; exact ⟨_, rfl, h⟩
theorem RepBs.two {g : Gh} {O : Os} {H : Hp} {vs : List V} {a b : RV} (h : RepBs g O H vs [a, b]) : ∃ v u, vs = [v, u] ∧ RepB g O H v a ∧ RepB g O H u b := by
  cases h with
  | cons h t =>
    obtain ⟨u, rfl, h2⟩ := RepBs.one t
    exact ⟨_, _, rfl, h, h2⟩
/-- the pair that a tuple of two ints holds -/
theorem Reps.pairs {g : Gh} {O : Os} {H : Hp} : ∀ {vs : List V} {ds : List D} {ps : List (Int × Int)}, Reps g O H vs ds → asPairs ds = some ps → ∃ k : V → Int × Int, True ∧ Paired (fun v p => ∃ t, v = V.ref t ∧ H t = some (.tup [.int p.1, .int p.2])) vs ps
  | _, _, ps, .nil, e => by
    have e' : ([] : List (Int × Int)) = ps := Option.some.inj e
    subst e'
    exact ⟨fun _ => (0, 0), trivial, .nil⟩
  | _, _, ps, .cons (d := d) a b, e => by
    unfold asPairs at e
    split at e
    · rename_i h; cases h
    · rename_i i j r h
      cases h
      simp only [Option.map_eq_some_iff] at e
      obtain ⟨qs, e1, rfl⟩ := e
      obtain ⟨k, _, p⟩ := Reps.pairs b e1
      refine ⟨k, trivial, .cons ?_ p⟩
      cases a with
      | tup h r =>
        cases r with
        | cons r1 r2 =>
          cases r1
          cases r2 with
          | cons r2 r3 =>
            cases r2; cases r3
            exact ⟨_, rfl, h⟩
    · cases e
/-- a key that tells the pair of a tuple's place -/
noncomputable def keyOf (H : Hp) (v : V) : Int × Int := match v with
  | .ref t => (match H t with
    | some (.tup [.int i, .int j]) => (i, j)
    | _ => (0, 0))
  | _ => (0, 0)
theorem keyOf_of {H : Hp} {t : Addr} {i j : Int} (h : H t = some (.tup [.int i, .int j])) : keyOf H (.ref t) = (i, j) := by
  unfold keyOf
  simp only [h]
theorem paired_key {H : Hp} : ∀ {vs : List V} {ps : List (Int × Int)}, Paired (fun v p => ∃ t, v = V.ref t ∧ H t = some (.tup [.int p.1, .int p.2])) vs ps → vs.map (keyOf H) = ps ∧ ∀ v ∈ vs, ∃ t, v = V.ref t ∧ H t = some (.tup [.int (keyOf H v).1, .int (keyOf H v).2])
  | _, _, .nil => ⟨rfl, fun _ h => nomatch h⟩
  | _, _, .cons (a := v) (b := p) h t => by
    obtain ⟨e1, e2⟩ := paired_key t
    obtain ⟨a, rfl, ha⟩ := h
    have k := keyOf_of ha
    refine ⟨by rw [List.map_cons, k, e1], fun v hv => ?_⟩
    rcases List.mem_cons.mp hv with rfl | hv
    · exact ⟨a, rfl, by rw [k]; exact ha⟩
    · exact e2 v hv
theorem reps_key {g : Gh} {O : Os} {H : Hp} : ∀ {vs : List V}, (∀ v ∈ vs, ∃ t, v = V.ref t ∧ H t = some (.tup [.int (keyOf H v).1, .int (keyOf H v).2])) → Reps g O H vs ((vs.map (keyOf H)).map fun p => .tuple [.int p.1, .int p.2])
  | [], _ => .nil
  | v :: r, h => by
    obtain ⟨t, e, ht⟩ := h v List.mem_cons_self
    refine .cons ?_ (reps_key fun v hv => h v (List.mem_cons_of_mem _ hv))
    generalize keyOf H v = k at ht ⊢
    rw [e]
    exact .tup ht (.cons (.int _) (.cons (.int _) .nil))
section
variable {X : Cx} {H H0 : Hp} {O : Os} {g : Gh} {w : Wd} {Q : VK} {vs : List V} {rs : List RV} {rz : RV}
theorem sortOp_ok {a : Addr} {ds : List D} (st : St3 X.K H O g w) (hb : ∀ p, H p = none → H0 p = none) (hx : LAt g O H a ds) (e : sortOp ds = some rz) (h : Pst X.K H O g (R.ok rz w) (CV H0 Q)) : cW X (.builtin "sorted") [.ref a] H Q := by
  obtain ⟨vs, ha, ra⟩ := hx
  unfold sortOp at e
  split at e
  · rename_i ns en
    cases e
    have e1 := ra.ints en
    subst e1
    refine CallR.w cr_sortedI ⟨a, ns, rfl, SqL.of ha, fun ns' p h1 h2 hp => ?_⟩
    have e2 := srt_uniq h1 h2
    subst e2
    exact endOwn st hb (reps_ints _) h hp
  · split at e
    · rename_i ps ep
      cases e
      obtain ⟨_, _, pr⟩ := ra.pairs ep
      obtain ⟨k1, k2⟩ := paired_key pr
      refine CallR.w cr_sortedPO ⟨a, vs, keyOf H, rfl, SqL.of ha, k2, fun ys p h1 h2 hp => ?_⟩
      have hm : ys.map (keyOf H) = srtP ps := by
        refine srtP_uniq ?_ ?_
        · rw [← k1]
          exact h2.perm.map _
        · refine List.pairwise_map.mpr (List.Pairwise.imp (fun {x y} hxy => ?_) h1)
          have hxy' : SrtO.lexB (keyOf H y) (keyOf H x) = false := hxy
          have := SrtO.lexB_no.mp hxy'
          exact ple_iff.mpr (by omega)
      have r2 : Reps g O H ys ((srtP ps).map fun p => .tuple [.int p.1, .int p.2]) := by
        rw [← hm]
        exact reps_key fun v hv => k2 v (h2.perm.mem_iff.mp hv)
      exact endOwn st hb r2 h hp
    · cases e
theorem bltop_ok {b : Blt} (hc : X.calm = true) (st : St3 X.K H O g w) (hb : ∀ p, H p = none → H0 p = none) (hx : RepBs g O H vs rs) (e : bltop b rs = some rz) (h : Pst X.K H O g (R.ok rz w) (CV H0 Q)) : cW X (bltVal b) vs H Q := by
  unfold bltop at e
  split at e
  · rename_i ds
    cases e
    obtain ⟨v, rfl, h1⟩ := hx.one
    have h1' : Rep g O H v (.tuple ds) := h1
    cases h1' with
    | tup hz r1 =>
      refine CallR.w call_len_seq ⟨_, _, rfl, .inr (SqT.of hz), ?_⟩
      rw [r1.length]
      exact endVal st (.int _) h
  · split at e
    · rename_i hl
      cases e
      obtain ⟨v, rfl, h1⟩ := hx.one
      cases h1
      exact CallR.w call_len_str ⟨_, rfl, Nat.le_trans hl cap_line, endVal st (.int _) h⟩
    · cases e
  · obtain ⟨v, rfl, h1⟩ := hx.one
    simp only [Option.map_eq_some_iff] at e
    obtain ⟨ds, e1, rfl⟩ := e
    obtain ⟨a, rfl, vs, ha, ra⟩ := h1.lst e1
    refine CallR.w call_len_seq ⟨_, _, rfl, .inl (SqL.of ha), ?_⟩
    rw [ra.length]
    exact endVal st (.int _) h
  · cases e
    obtain ⟨v, rfl, h1⟩ := hx.one
    cases h1
    exact CallR.w call_abs ⟨_, rfl, endVal st (.int _) h⟩
  · obtain ⟨v, rfl, h1⟩ := hx.one
    simp only [Option.map_eq_some_iff, Option.bind_eq_some_iff] at e
    obtain ⟨ns, ⟨ds, e1, e2⟩, rfl⟩ := e
    obtain ⟨a, rfl, vs, ha, ra⟩ := h1.lst e1
    have e3 := ra.ints e2
    subst e3
    exact CallR.w (cr_sum hc) ⟨a, ns, rfl, SqL.of ha, endVal st (.int _) h⟩
  · obtain ⟨v, rfl, h1⟩ := hx.one
    simp only [Option.map_eq_some_iff, Option.bind_eq_some_iff] at e
    obtain ⟨m, ⟨ns, ⟨ds, e1, e2⟩, e4⟩, rfl⟩ := e
    obtain ⟨a, rfl, vs, ha, ra⟩ := h1.lst e1
    have e3 := ra.ints e2
    subst e3
    obtain ⟨m1, m2⟩ := minL_ok e4
    refine CallR.w (cr_min hc) ⟨a, ns, rfl, SqL.of ha, List.length_pos_of_mem m1, fun m' h1 h2 => ?_⟩
    have : m' = m := Int.le_antisymm (h2 m m1) (m2 m' h1)
    subst this
    exact endVal st (.int _) h
  · obtain ⟨v, rfl, h1⟩ := hx.one
    simp only [Option.map_eq_some_iff, Option.bind_eq_some_iff] at e
    obtain ⟨m, ⟨ns, ⟨ds, e1, e2⟩, e4⟩, rfl⟩ := e
    obtain ⟨a, rfl, vs, ha, ra⟩ := h1.lst e1
    have e3 := ra.ints e2
    subst e3
    obtain ⟨m1, m2⟩ := maxL_ok e4
    refine CallR.w (cr_max hc) ⟨a, ns, rfl, SqL.of ha, List.length_pos_of_mem m1, fun m' h1 h2 => ?_⟩
    have : m' = m := Int.le_antisymm (m2 m' h1) (h2 m m1)
    subst this
    exact endVal st (.int _) h
  · cases e
    obtain ⟨v, u, rfl, h1, h2⟩ := hx.two
    cases h1; cases h2
    exact CallR.w (call_min2 hc) ⟨_, _, rfl, endVal st (.int _) h⟩
  · cases e
    obtain ⟨v, u, rfl, h1, h2⟩ := hx.two
    cases h1; cases h2
    exact CallR.w (call_max2 hc) ⟨_, _, rfl, endVal st (.int _) h⟩
  · obtain ⟨v, rfl, h1⟩ := hx.one
    simp only [Option.bind_eq_some_iff] at e
    obtain ⟨ds, e1, e2⟩ := e
    obtain ⟨a, rfl, l⟩ := h1.lst e1
    exact sortOp_ok st hb l e2 h
  · rename_i ds
    cases e
    obtain ⟨v, rfl, h1⟩ := hx.one
    have h1' : Rep g O H v (.tuple ds) := h1
    cases h1' with
    | tup hz r1 => exact CallR.w call_list_of ⟨_, _, rfl, .inr (SqT.of hz), fun p hp => endOwn st hb r1 h hp⟩
  · obtain ⟨v, rfl, h1⟩ := hx.one
    simp only [Option.map_eq_some_iff] at e
    obtain ⟨ds, e1, rfl⟩ := e
    obtain ⟨a, rfl, vs, ha, ra⟩ := h1.lst e1
    exact CallR.w call_list_of ⟨_, _, rfl, .inl (SqL.of ha), fun p hp => endOwn st hb ra h hp⟩
  · rename_i ds
    cases e
    obtain ⟨v, rfl, h1⟩ := hx.one
    have h1' : Rep g O H v (.tuple ds) := h1
    cases h1' with
    | tup hz r1 => exact CallR.w call_tuple_of ⟨_, _, rfl, .inr ⟨SqT.of hz, endVal st (.tup hz r1) h⟩⟩
  · obtain ⟨v, rfl, h1⟩ := hx.one
    simp only [Option.map_eq_some_iff] at e
    obtain ⟨ds, e1, rfl⟩ := e
    obtain ⟨a, rfl, vs, ha, ra⟩ := h1.lst e1
    exact CallR.w call_tuple_of ⟨_, _, rfl, .inl ⟨SqL.of ha, fun p hp => endTup st ra h hp⟩⟩
  · split at e
    · rename_i hl
      cases e
      obtain ⟨v, rfl, h1⟩ := hx.one
      cases h1
      exact CallR.w call_str_int ⟨_, rfl, hl, endVal st (.str _) h⟩
    · cases e
  · obtain ⟨v, rfl, h1⟩ := hx.one
    simp only [Option.map_eq_some_iff, Option.bind_eq_some_iff] at e
    obtain ⟨ns, ⟨ds, e1, e2⟩, rfl⟩ := e
    obtain ⟨a, rfl, vs, ha, ra⟩ := h1.lst e1
    have e3 := ra.bools e2
    subst e3
    exact CallR.w (cr_all hc) ⟨a, ns, rfl, SqL.of ha, endVal st (.bl _) h⟩
  · obtain ⟨v, rfl, h1⟩ := hx.one
    simp only [Option.map_eq_some_iff, Option.bind_eq_some_iff] at e
    obtain ⟨ns, ⟨ds, e1, e2⟩, rfl⟩ := e
    obtain ⟨a, rfl, vs, ha, ra⟩ := h1.lst e1
    have e3 := ra.bools e2
    subst e3
    exact CallR.w (cr_any hc) ⟨a, ns, rfl, SqL.of ha, endVal st (.bl _) h⟩
  · cases e
end
end TM

namespace TM
open PySem PySem.Spec PyProof.Rows L2

theorem _root_.L2.PE.imp {X : Cx} {e : Expr} {t t' : TE} (h : PE X e t) (f : ∀ σ H Q, t' σ H Q → t σ H Q) : PE X e t' := ⟨fun pins s σ H Q I q => h.run pins s σ H Q I (f σ H Q q)⟩
theorem _root_.L2.PT.imp {X : Cx} {e : Expr} {t t' : TT} (h : PT X e t) (f : ∀ σ H Q, t' σ H Q → t σ H Q) : PT X e t' := ⟨fun pins s σ H Q I q => h.run pins s σ H Q I (f σ H Q q)⟩
theorem _root_.L2.PW.imp {X : Cx} {e : Expr} {t t' : TT} (h : PW X e t) (f : ∀ σ H Q, t' σ H Q → t σ H Q) : PW X e t' := ⟨fun wh pins s σ H Q I q => h.run wh pins s σ H Q I (f σ H Q q)⟩
theorem _root_.L2.PA.imp {X : Cx} {e : List Expr} {t t' : TA} (h : PA X e t) (f : ∀ σ H Q, t' σ H Q → t σ H Q) : PA X e t' := ⟨fun pos pins s σ H Q I q => h.run pos pins s σ H Q I (f σ H Q q)⟩
theorem _root_.L2.PO.imp {X : Cx} {e : Option Expr} {t t' : TO} (h : PO X e t) (f : ∀ σ H Q, t' σ H Q → t σ H Q) : PO X e t' := ⟨fun pins s σ H Q I q => h.run pins s σ H Q I (f σ H Q q)⟩
theorem _root_.L2.PG.imp {X : Cx} {e : Expr} {t t' : TG} (h : PG X e t) (f : ∀ v σ H Q, t' v σ H Q → t v σ H Q) : PG X e t' := ⟨fun pins s σ H v u Q I r q => h.run pins s σ H v u Q I r (f v σ H Q q)⟩
theorem _root_.L2.PSs.imp {X : Cx} {e : List Stmt} {t t' : TS} (h : PSs X e t) (f : ∀ D σ H, t' D σ H → t D σ H) : PSs X e t' := ⟨fun pins s σ H D I q => h.run pins s σ H D I (f D σ H q)⟩
theorem _root_.L2.PS.imp {X : Cx} {e : Stmt} {t t' : TS} (h : PS X e t) (f : ∀ D σ H, t' D σ H → t D σ H) : PS X e t' := ⟨fun pins s σ H D I q => h.run pins s σ H D I (f D σ H q)⟩

/-- the promise of a def, by its answer -/
def spT (K : PySem.W.Frag) (T : List D → Wd → R RV) : Sp := fun vs H Q _ => ∃ O g w ds, St3 K H O g w ∧ Reps g O H vs ds ∧ Pst K H O g (T ds w) (CV H Q)
def tyNames : List Str := ["int", "bool", "list", "tuple", "str"]
structure Good (X : Cx) (G : Cn) (k : Nat) : Prop where
  calm : X.calm = true
  nd : X.N.Nodup
  N : X.N = G.N
  kind : X.env.scope.kind = .function
  room : Room k X.A
  dfn : ∀ f, G.dfn f = true → ∃ a fd ps, X.mg f = some (.ref a) ∧ PySem.W.keepIn X.K (.ref a) = true ∧ Binds X.K fd ps [] ∧ FnOk X.prog X.w X.K X.mg X.base CX0 k a fd ps (spT X.K (G.T f))
  blt : ∀ x b, G.dfn x = false → bltTab.lookup x = some b → X.mg x = none
  ty : ∀ t ∈ tyNames, X.mg t = none
  cst : ∀ x d, G.cst x = some d → ∃ v u, X.mg x = some u ∧ RelV v u ∧ ∀ g O H, Rep g O H v d

theorem idx_get : ∀ {N : List Str} {x : Str} {i : Nat}, idx N x = some i → N[i]? = some x
  | [], _, _, h => by simp [idx] at h
  | y :: r, x, i, h => by
    unfold idx at h
    split at h
    · rename_i e
      cases h
      simp [e]
    · simp only [Option.map_eq_some_iff] at h
      obtain ⟨j, h1, rfl⟩ := h
      simpa using idx_get h1

/-! ### the looks at a text -/
def glB (sc : Scope) (x : Str) : Bool := decide (sc.names.lookup x = some .globalImplicit) && !(x == ("__debug__" : Str))
def visB (sc : Scope) (x : Str) : Bool := (decide (sc.names.lookup x = some .local) || decide (sc.names.lookup x = some .cell) || decide (sc.names.lookup x = some .free)) && !(x == ("__debug__" : Str)) && !(x == ("__classdict__" : Str))
def nameB (N : List Str) (sc : Scope) (x : Str) : Bool := match idx N x with
  | some _ => visB sc x
  | none => glB sc x
def noIf : Expr → Bool
  | .IfExp _ _ _ _ => false
  | _ => true
def chkTg1 (N : List Str) (own : List (Str × Nat)) (sc : Scope) (e : Expr) : Bool := match e with
  | .Name x _ => (match idx N x with
    | some i => decide (sc.names.lookup x = some .local) && decide (i ∈ own.map (·.2))
    | none => false)
  | _ => false
def chkTg (N : List Str) (own : List (Str × Nat)) (sc : Scope) (e : Expr) : Bool := match e with
  | .Tuple es _ _ => es.all (chkTg1 N own sc)
  | e => chkTg1 N own sc e
def argsOk (c : Expr → Bool) (e : Expr) : Bool := match e with
  | .Call _ as _ _ => as.all c
  | _ => true
def chk : Nat → List Str → Scope → Expr → Bool
  | 0, _, _, _ => false
  | n + 1, N, sc, e => match e with
    | .Constant _ _ _ => true
    | .Name x _ => nameB N sc x
    | .BinOp a _ b _ => chk n N sc a && chk n N sc b
    | .UnaryOp _ a _ => chk n N sc a && noIf a
    | .BoolOp _ es _ => es.all fun e => chk n N sc e && noIf e
    | .IfExp t a b _ => chk n N sc t && noIf t && chk n N sc a && chk n N sc b
    | .Compare a _ bs _ => chk n N sc a && bs.all (chk n N sc)
    | .Tuple es _ _ => es.all (chk n N sc)
    | .List es _ => es.all (chk n N sc)
    | .Subscript a b _ => chk n N sc a && (match b with
      | .Slice lo hi _ _ => lo.all (chk n N sc) && hi.all (chk n N sc)
      | b => chk n N sc b)
    | .Call g args kws pos => kws.isEmpty && (args.all fun e => chk n N sc e && argsOk (chk n N sc) e) && (match g with
      | .Name x _ => glB sc x
      | .Attribute (.Name x _) _ ap => nameB N sc x && (ap.endLine == pos.line)
      | _ => false)
    | .ListComp elt gens scope _ => (match gens with
      | [⟨tg, iter, ifs, _⟩] => chk n N sc iter && argsOk (chk n N sc) iter && L2.blkC N sc scope (ownOf N scope) && chkTg N (ownOf N scope) (L2.relS scope sc) tg && (ifs.all fun e => chk n N (L2.relS scope sc) e && noIf e) && chk n N (L2.relS scope sc) elt
      | _ => false)
    | _ => false

section
variable {X : Cx} {G : Cn} {n k : Nat} {pos : Pos} {e a b c : Expr}
/-- nothing is asked of what has no answer -/
theorem pe_bad (h : ∀ s w, ev n G s e w = .bad) : PE X e (tE X.K n G e) := ⟨fun pins s σ H Q I q => by
  obtain ⟨sl, O, g, w, _, _, q⟩ := q
  rw [h] at q
  exact q.elim⟩
theorem pe_no (h : ∀ s w r w', ev n G s e w ≠ .ok r w') : PE X e (tE X.K n G e) := ⟨fun pins s σ H Q I q => by
  obtain ⟨sl, O, g, w, _, _, q⟩ := q
  cases hv : ev n G sl e w with
  | ok r w' => exact absurd hv (h _ _ _ _)
  | exc c w' => rw [hv] at q; exact q.elim
  | bad => rw [hv] at q; exact q.elim⟩
theorem vis_of {sc : Scope} {x : Str} (h : visB sc x = true) : Vis sc x ∧ (x == ("__debug__" : Str)) = false ∧ (x == ("__classdict__" : Str)) = false := by
  unfold visB at h
  simp only [Bool.and_eq_true, Bool.or_eq_true, decide_eq_true_eq, Bool.not_eq_true'] at h
  refine ⟨?_, h.1.2, h.2⟩
  rcases h.1.1 with (h | h) | h
  · exact .inl h
  · exact .inr (.inl h)
  · exact .inr (.inr h)
theorem gl_of {x : Str} (h : glB X.env.scope x = true) : Gl X x ∧ (x == ("__debug__" : Str)) = false := by
  unfold glB at h
  simp only [Bool.and_eq_true, decide_eq_true_eq, Bool.not_eq_true'] at h
  exact ⟨h.1, h.2⟩
theorem sv_const {cn : Const} {j : Nat} : PE X (.Constant cn j pos) (tE X.K (n + 1) G (.Constant cn j pos)) := by
  cases cn with
  | none => exact pe_non.imp fun σ H Q ⟨s, O, g, w, sr, st, h⟩ => endVal st .non h
  | bool b => exact pe_bl.imp fun σ H Q ⟨s, O, g, w, sr, st, h⟩ => endVal st (.bl b) h
  | int i => exact pe_int.imp fun σ H Q ⟨s, O, g, w, sr, st, h⟩ => endVal st (.int i) h
  | str x => exact pe_str.imp fun σ H Q ⟨s, O, g, w, sr, st, h⟩ => endVal st (.str x) h
  | _ => exact pe_bad fun _ _ => rfl
theorem SRep.read {g : Gh} {O : Os} {H : Hp} {σ : L2.St} {s : Sl} (sr : SRep g O H σ s) {i : Nat} {w w' : Wd} {r : RV} (h : slotW s[i]? w = .ok r w') : w' = w ∧ ∃ v, σ[i]? = some (some v) ∧ ∀ H0, RepV g O H0 H v r := by
  unfold slotW at h
  split at h
  · rename_i d e
    cases h
    obtain ⟨v, h1, h2⟩ := sr.at' i _ e
    exact ⟨rfl, v, h1, fun _ => h2⟩
  · rename_i ds e
    cases h
    obtain ⟨v, h1, a, rfl, o, n, l⟩ := sr.at' i _ e
    exact ⟨rfl, _, h1, fun _ => ⟨a, rfl, o, n, l⟩⟩
  · cases h
theorem sv_name {x : Str} (gd : Good X G k) (hc : nameB G.N X.env.scope x = true) : PE X (.Name x pos) (tE X.K (n + 1) G (.Name x pos)) := by
  unfold nameB at hc
  cases hi : idx G.N x with
  | some i =>
    rw [hi] at hc
    obtain ⟨h1, h2, h3⟩ := vis_of hc
    refine (pe_var (i := i) (by rw [gd.N]; exact idx_get hi) h1 h2 h3).imp fun σ H Q ⟨s, O, g, w, sr, st, h⟩ => ?_
    have h' : Pst X.K H O g (nameW G x s w) (CV H Q) := h
    unfold nameW at h'
    rw [hi] at h'
    dsimp only at h'
    cases hs : slotW s[i]? w with
    | ok r w' =>
      rw [hs] at h'
      obtain ⟨rfl, v, h1, h2⟩ := sr.read hs
      exact ⟨v, h1, h' _ _ _ Evo.refl st v (h2 H)⟩
    | exc c w' => rw [hs] at h'; exact h'.elim
    | bad => rw [hs] at h'; exact h'.elim
  | none =>
    rw [hi] at hc
    obtain ⟨h1, h2⟩ := gl_of hc
    cases hv : G.cst x with
    | none =>
      refine pe_bad fun s w => ?_
      show nameW G x s w = .bad
      unfold nameW
      rw [hi]
      dsimp only
      rw [hv]
      rfl
    | some d =>
      obtain ⟨v, u, m, r, rp⟩ := gd.cst x d hv
      refine (pe_glob h1 m r h2).imp fun σ H Q ⟨s, O, g, w, sr, st, h⟩ => ?_
      have h' : Pst X.K H O g (nameW G x s w) (CV H Q) := h
      unfold nameW at h'
      rw [hi, hv] at h'
      exact endVal st (rp _ _ _) h'
theorem sv_bin {op : Operator} (ha : PE X a (tE X.K n G a)) (hb : PE X b (tE X.K n G b)) : PE X (.BinOp a op b pos) (tE X.K (n + 1) G (.BinOp a op b pos)) := by
  refine (pe_op opW ha hb).imp fun σ H Q ⟨s, O, g, w, sr, st, h⟩ => ?_
  have h' : Pst X.K H O g (binW (ev n G s) a op b w) (CV H Q) := h
  refine ⟨s, O, g, w, sr, st, h'.bind.mono fun rx w1 H1 O1 g1 e1 s1 hx v rv => ⟨s, O1, g1, w1, sr.evo st e1, s1, (hx _ _ _ e1 s1).bind.mono fun ry w2 H2 O2 g2 e2 s2 hy u ru => ?_⟩⟩
  obtain ⟨rz, ez, hz⟩ := (hy _ _ _ e2 s2).of
  exact binop_ok s2 (fun p hp => e1.back (e2.back hp)) (s1.repB e2 rv.b) ru.b ez hz
theorem sv_un {op : UnaryOp} (ha : PE X a (tE X.K n G a)) : PE X (.UnaryOp op a pos) (tE X.K (n + 1) G (.UnaryOp op a pos)) := by
  by_cases ho : op = .Not
  · subst ho
    refine (pe_not ha).imp fun σ H Q ⟨s, O, g, w, sr, st, h⟩ => ?_
    have h' : Pst X.K H O g (unW (ev n G s) .Not a w) (CV H Q) := h
    refine ⟨s, O, g, w, sr, st, h'.bind.mono fun rx w1 H1 O1 g1 e1 s1 hx v rv => ?_⟩
    obtain ⟨rz, ez, hz⟩ := (hx _ _ _ e1 s1).of
    unfold unop at ez
    split at ez
    · rename_i h1; cases h1
    · cases ez
      cases rv
      exact ⟨_, rfl, endVal s1 (.bl _) hz⟩
    · cases ez
  · refine (pe_un unW' ha).imp fun σ H Q ⟨s, O, g, w, sr, st, h⟩ => ?_
    have h' : Pst X.K H O g (unW (ev n G s) op a w) (CV H Q) := h
    refine ⟨s, O, g, w, sr, st, h'.bind.mono fun rx w1 H1 O1 g1 e1 s1 hx v rv => ?_⟩
    obtain ⟨rz, ez, hz⟩ := (hx _ _ _ e1 s1).of
    exact unop_ok s1 rv.b ez ho hz
theorem Nxt.now {β : Type} {K : PySem.W.Frag} {H H' : Hp} {O O' : Os} {g g' : Gh} {m : R β} {w : Wd} {C : β → Wd → Hp → Os → Gh → Prop} (h : Nxt K H O g m w C) (e : Evo H O g H' O' g') (s : St3 K H' O' g' w) : Pst K H' O' g' m C := h _ _ _ e s
def tAndL (K : PySem.W.Frag) (n : Nat) (G : Cn) (es : List Expr) : TE := fun σ H Q => ∃ s O g w, SRep g O H σ s ∧ St3 K H O g w ∧ Pst K H O g (andW (ev n G s) es w) (CV H Q)
def tOrL (K : PySem.W.Frag) (n : Nat) (G : Cn) (es : List Expr) : TE := fun σ H Q => ∃ s O g w, SRep g O H σ s ∧ St3 K H O g w ∧ Pst K H O g (orW (ev n G s) es w) (CV H Q)
theorem sv_and : ∀ {es : List Expr}, (∀ e ∈ es, PE X e (tE X.K n G e)) → PE X (.BoolOp .And es pos) (tAndL X.K n G es)
  | [], _ => ⟨fun pins s σ H Q I ⟨sl, O, g, w, _, _, q⟩ => (q : False).elim⟩
  | [a], ih => by
    refine (pe_one (ih a (by simp))).imp fun σ H Q ⟨s, O, g, w, sr, st, h⟩ => ?_
    refine ⟨s, O, g, w, sr, st, h.bind.mono fun rx w1 H1 O1 g1 e1 s1 hx v rv => ?_⟩
    have hx := hx.now e1 s1
    dsimp only at hx
    split at hx
    · exact hx _ _ _ Evo.refl s1 v rv
    · exact hx _ _ _ Evo.refl s1 v rv
    · exact hx.elim
  | a :: b :: r, ih => by
    have hr := sv_and (es := b :: r) fun e he => ih e (List.mem_cons_of_mem _ he)
    refine (pe_and (ih a (by simp)) hr).imp fun σ H Q ⟨s, O, g, w, sr, st, h⟩ => ?_
    have h' : Pst X.K H O g ((ev n G s a w).bind fun v w => match v with
      | .val (.bool true) => andW (ev n G s) (b :: r) w
      | .val (.bool false) => .ok (.val (.bool false)) w
      | _ => .bad) (CV H Q) := h
    refine ⟨s, O, g, w, sr, st, h'.bind.mono fun rx w1 H1 O1 g1 e1 s1 hx v rv => ?_⟩
    have hx := hx.now e1 s1
    split at hx
    · cases rv
      refine ⟨true, rfl, ?_⟩
      rw [if_pos rfl]
      exact ⟨s, O1, g1, w1, sr.evo st e1, s1, hx.mono fun rz w2 H2 O2 g2 e2 s2 hz v rz => hz v (rz.from e1)⟩
    · cases rv
      refine ⟨false, rfl, ?_⟩
      rw [if_neg (by decide)]
      exact endVal s1 (.bl _) hx
    · exact hx.elim
theorem sv_or : ∀ {es : List Expr}, (∀ e ∈ es, PE X e (tE X.K n G e)) → PE X (.BoolOp .Or es pos) (tOrL X.K n G es)
  | [], _ => ⟨fun pins s σ H Q I ⟨sl, O, g, w, _, _, q⟩ => (q : False).elim⟩
  | [a], ih => by
    refine (pe_one (ih a (by simp))).imp fun σ H Q ⟨s, O, g, w, sr, st, h⟩ => ?_
    refine ⟨s, O, g, w, sr, st, h.bind.mono fun rx w1 H1 O1 g1 e1 s1 hx v rv => ?_⟩
    have hx := hx.now e1 s1
    dsimp only at hx
    split at hx
    · exact hx _ _ _ Evo.refl s1 v rv
    · exact hx _ _ _ Evo.refl s1 v rv
    · exact hx.elim
  | a :: b :: r, ih => by
    have hr := sv_or (es := b :: r) fun e he => ih e (List.mem_cons_of_mem _ he)
    refine (pe_or (ih a (by simp)) hr).imp fun σ H Q ⟨s, O, g, w, sr, st, h⟩ => ?_
    have h' : Pst X.K H O g ((ev n G s a w).bind fun v w => match v with
      | .val (.bool false) => orW (ev n G s) (b :: r) w
      | .val (.bool true) => .ok (.val (.bool true)) w
      | _ => .bad) (CV H Q) := h
    refine ⟨s, O, g, w, sr, st, h'.bind.mono fun rx w1 H1 O1 g1 e1 s1 hx v rv => ?_⟩
    have hx := hx.now e1 s1
    split at hx
    · cases rv
      refine ⟨false, rfl, ?_⟩
      rw [if_neg (by decide)]
      exact ⟨s, O1, g1, w1, sr.evo st e1, s1, hx.mono fun rz w2 H2 O2 g2 e2 s2 hz v rz => hz v (rz.from e1)⟩
    · cases rv
      refine ⟨true, rfl, ?_⟩
      rw [if_pos rfl]
      exact endVal s1 (.bl _) hx
    · exact hx.elim
theorem sv_bool {op : PySem.BoolOp} {es : List Expr} (ih : ∀ e ∈ es, PE X e (tE X.K n G e)) : PE X (.BoolOp op es pos) (tE X.K (n + 1) G (.BoolOp op es pos)) := by
  cases op with
  | And => exact (sv_and ih).imp fun σ H Q h => h
  | Or => exact (sv_or ih).imp fun σ H Q h => h

/-! ### tests -/
def CB (Q : Bool → Hp → Prop) : Bool → Wd → Hp → Os → Gh → Prop := fun b _ H' _ _ => Q b H'
def tT (K : PySem.W.Frag) (n : Nat) (G : Cn) (e : Expr) : TT := fun σ H Q => ∃ s O g w, SRep g O H σ s ∧ St3 K H O g w ∧ Pst K H O g (tstW (ev n G s) e w) (CB Q)
theorem boolOf_some {r : RV} {b : Bool} (h : boolOf r = some b) : r = .val (.bool b) := by
  unfold boolOf at h
  split at h
  · cases h; rfl
  · cases h
/-- a value that is a bool, as a test -/
theorem st_val (h : PE X e (tE X.K n G e)) (he : ∀ whole, isTrue e X.env whole = (do let v ← whole; standAt e.pos; holding [v] (truthy v))) : PT X e (tT X.K n G e) := by
  refine (pt_val h he).imp fun σ H Q ⟨s, O, g, w, sr, st, h⟩ => ?_
  refine ⟨s, O, g, w, sr, st, h.bind.mono fun rx w1 H1 O1 g1 e1 s1 hx v rv => ?_⟩
  obtain ⟨z, ez, hz⟩ := (hx.now e1 s1).of
  have := boolOf_some ez
  subst this
  cases rv
  exact ⟨z, rfl, hz _ _ _ Evo.refl s1⟩
theorem st_not (h : PT X a (tT X.K n G a)) : PT X (.UnaryOp .Not a pos) (tT X.K (n + 1) G (.UnaryOp .Not a pos)) := by
  refine (pt_not h).imp fun σ H Q ⟨s, O, g, w, sr, st, h⟩ => ?_
  have h' : Pst X.K H O g ((unW (ev n G s) .Not a w).bind fun x w => R.of (boolOf x) w) (CB Q) := h
  refine ⟨s, O, g, w, sr, st, ?_⟩
  unfold tstW
  unfold unW at h'
  cases ha : ev n G s a w with
  | ok rx w1 =>
    rw [ha] at h'
    simp only [R.bind_ok] at h' ⊢
    obtain ⟨r1, hr1, q⟩ := (h'.bind.mono (C' := fun a w _ _ _ => Nxt X.K H O g (R.of (boolOf a) w) w (CB Q)) fun _ _ _ _ _ _ _ z => z).of
    unfold unop at hr1
    split at hr1
    · rename_i h1; cases h1
    · cases hr1
      intro H' O' g' e' s'
      exact (q _ _ _ e' s').now e' s' _ _ _ Evo.refl s'
    · cases hr1
  | exc c w1 => rw [ha] at h'; exact h'
  | bad => rw [ha] at h'; exact h'
end
end TM

namespace TM
open PySem PySem.Spec PyProof.Rows L2

/-! ### tests: and, or, comparisons -/
section
variable {X : Cx} {G : Cn} {n k : Nat} {pos : Pos} {e a b c : Expr}
def tTAndL (K : PySem.W.Frag) (n : Nat) (G : Cn) (es : List Expr) : TT := fun σ H Q => ∃ s O g w, SRep g O H σ s ∧ St3 K H O g w ∧ Pst K H O g ((andW (ev n G s) es w).bind fun x w => R.of (boolOf x) w) (CB Q)
def tTOrL (K : PySem.W.Frag) (n : Nat) (G : Cn) (es : List Expr) : TT := fun σ H Q => ∃ s O g w, SRep g O H σ s ∧ St3 K H O g w ∧ Pst K H O g ((orW (ev n G s) es w).bind fun x w => R.of (boolOf x) w) (CB Q)
theorem stw_and : ∀ {es : List Expr}, (∀ e ∈ es, PT X e (tT X.K n G e)) → PW X (.BoolOp .And es pos) (tTAndL X.K n G es)
  | [], _ => ⟨fun wh pins s σ H Q I ⟨sl, O, g, w, _, _, q⟩ => (q : False).elim⟩
  | [a], ih => by
    refine (pw_and1 (ih a (by simp))).imp fun σ H Q ⟨s, O, g, w, sr, st, h⟩ => ?_
    refine ⟨s, O, g, w, sr, st, ?_⟩
    unfold andW at h
    unfold tstW
    cases ha : ev n G s a w with
    | ok rx w1 =>
      rw [ha] at h
      simp only [R.bind_ok] at h ⊢
      split at h
      · exact h
      · exact h
      · exact h.elim
    | exc c w1 => rw [ha] at h; exact h
    | bad => rw [ha] at h; exact h
  | a :: b :: r, ih => by
    have hr := stw_and (es := b :: r) fun e he => ih e (List.mem_cons_of_mem _ he)
    refine (pw_and (ih a (by simp)) hr).imp fun σ H Q ⟨s, O, g, w, sr, st, h⟩ => ?_
    refine ⟨s, O, g, w, sr, st, ?_⟩
    unfold andW at h
    unfold tstW
    cases ha : ev n G s a w with
    | ok rx w1 =>
      rw [ha] at h
      simp only [R.bind_ok] at h ⊢
      split at h
      · intro H1 O1 g1 e1 s1
        show tTAndL X.K n G (b :: r) σ H1 Q
        refine ⟨s, O1, g1, w1, sr.evo st e1, s1, ?_⟩
        exact (h.nxt (w := w1)).now e1 s1
      · intro H1 O1 g1 e1 s1
        show Q false H1
        exact h _ _ _ e1 s1
      · exact h.elim
    | exc c w1 => rw [ha] at h; exact h
    | bad => rw [ha] at h; exact h
theorem stw_or : ∀ {es : List Expr}, (∀ e ∈ es, PT X e (tT X.K n G e)) → PW X (.BoolOp .Or es pos) (tTOrL X.K n G es)
  | [], _ => ⟨fun wh pins s σ H Q I ⟨sl, O, g, w, _, _, q⟩ => (q : False).elim⟩
  | [a], ih => by
    refine (pw_or1 (ih a (by simp))).imp fun σ H Q ⟨s, O, g, w, sr, st, h⟩ => ?_
    refine ⟨s, O, g, w, sr, st, ?_⟩
    unfold orW at h
    unfold tstW
    cases ha : ev n G s a w with
    | ok rx w1 =>
      rw [ha] at h
      simp only [R.bind_ok] at h ⊢
      split at h
      · exact h
      · exact h
      · exact h.elim
    | exc c w1 => rw [ha] at h; exact h
    | bad => rw [ha] at h; exact h
  | a :: b :: r, ih => by
    have hr := stw_or (es := b :: r) fun e he => ih e (List.mem_cons_of_mem _ he)
    refine (pw_or (ih a (by simp)) hr).imp fun σ H Q ⟨s, O, g, w, sr, st, h⟩ => ?_
    refine ⟨s, O, g, w, sr, st, ?_⟩
    unfold orW at h
    unfold tstW
    cases ha : ev n G s a w with
    | ok rx w1 =>
      rw [ha] at h
      simp only [R.bind_ok] at h ⊢
      split at h
      · intro H1 O1 g1 e1 s1
        show tTOrL X.K n G (b :: r) σ H1 Q
        refine ⟨s, O1, g1, w1, sr.evo st e1, s1, ?_⟩
        exact (h.nxt (w := w1)).now e1 s1
      · intro H1 O1 g1 e1 s1
        show Q true H1
        exact h _ _ _ e1 s1
      · exact h.elim
    | exc c w1 => rw [ha] at h; exact h
    | bad => rw [ha] at h; exact h
theorem st_bool {op : PySem.BoolOp} {es : List Expr} (ih : ∀ e ∈ es, PT X e (tT X.K n G e)) : PT X (.BoolOp op es pos) (tT X.K (n + 1) G (.BoolOp op es pos)) := by
  cases op with
  | And => exact (stw_and ih).pt.imp fun σ H Q h => h
  | Or => exact (stw_or ih).pt.imp fun σ H Q h => h

theorem mark_of {n : Nat} {N : List Str} {sc : Scope} {op : CmpOp} (h : chk n N sc b = true) : behindInMarks op b = false := by
  cases n with
  | zero => simp [chk] at h
  | succ n => cases b <;> first | rfl | (simp [chk] at h)
theorem marks_of {n : Nat} {N : List Str} {sc : Scope} {op op' : CmpOp} (h : chk n N sc c = true) : lastMarks [op, op'] [b, c] = false := by
  show behindInMarks op' c = false
  exact mark_of h
theorem sv_cmp1 {op : CmpOp} (hr : Room k X.A) (hm : behindInMarks op b = false) (ha : PE X a (tE X.K n G a)) (hb : PE X b (tE X.K n G b)) : PE X (.Compare a [op] [b] pos) (tE X.K (n + 1) G (.Compare a [op] [b] pos)) := by
  refine (pe_cmpR opW ha hb hm).imp fun σ H Q ⟨s, O, g, w, sr, st, h⟩ => ?_
  have h' : Pst X.K H O g (cmpW (ev n G s) a [op] [b] w) (CV H Q) := h
  refine ⟨s, O, g, w, sr, st, h'.bind.mono fun rx w1 H1 O1 g1 e1 s1 hx v rv => ⟨s, O1, g1, w1, sr.evo st e1, s1, (hx _ _ _ e1 s1).bind.mono fun ry w2 H2 O2 g2 e2 s2 hy u ru => ?_⟩⟩
  obtain ⟨rz, ez, hz⟩ := (hy _ _ _ e2 s2).of
  simp only [Option.map_eq_some_iff] at ez
  obtain ⟨z, ez, rfl⟩ := ez
  exact cmpop_ok hr (s1.repB e2 rv.b) ru.b ez (endVal s2 (.bl _) hz)
theorem st_cmp1 {op : CmpOp} (hr : Room k X.A) (hm : behindInMarks op b = false) (ha : PE X a (tE X.K n G a)) (hb : PE X b (tE X.K n G b)) : PT X (.Compare a [op] [b] pos) (tT X.K (n + 1) G (.Compare a [op] [b] pos)) := by
  refine (pt_cmpR opW ha hb hm).imp fun σ H Q ⟨s, O, g, w, sr, st, h⟩ => ?_
  have h0 : Pst X.K H O g ((cmpW (ev n G s) a [op] [b] w).bind fun x w => R.of (boolOf x) w) (CB Q) := h
  have h' : Pst X.K H O g ((ev n G s a w).bind fun x w => (ev n G s b w).bind fun y w => R.of (cmpop op x y) w) (CB Q) := by
    refine cast ?_ h0
    congr 1
    unfold cmpW
    cases ev n G s a w with
    | ok x w1 =>
      simp only [R.bind_ok]
      cases ev n G s b w1 with
      | ok y w2 =>
        simp only [R.bind_ok]
        cases cmpop op x y <;> rfl
      | exc c w2 => rfl
      | bad => rfl
    | exc c w1 => rfl
    | bad => rfl
  refine ⟨s, O, g, w, sr, st, h'.bind.mono fun rx w1 H1 O1 g1 e1 s1 hx v rv => ⟨s, O1, g1, w1, sr.evo st e1, s1, (hx _ _ _ e1 s1).bind.mono fun ry w2 H2 O2 g2 e2 s2 hy u ru => ?_⟩⟩
  obtain ⟨z, ez, hz⟩ := (hy _ _ _ e2 s2).of
  exact cmpop_ok hr (s1.repB e2 rv.b) ru.b ez ⟨z, rfl, hz _ _ _ Evo.refl s2⟩
theorem sv_cmp2 {op op' : CmpOp} (hr : Room k X.A) (hm : lastMarks [op, op'] [b, c] = false) (ha : PE X a (tE X.K n G a)) (hb : PE X b (tE X.K n G b)) (hc : PE X c (tE X.K n G c)) : PE X (.Compare a [op, op'] [b, c] pos) (tE X.K (n + 1) G (.Compare a [op, op'] [b, c] pos)) := by
  refine (pe_chain opW opW ha hb hc hm).imp fun σ H Q ⟨s, O, g, w, sr, st, h⟩ => ?_
  have h' : Pst X.K H O g (cmpW (ev n G s) a [op, op'] [b, c] w) (CV H Q) := h
  refine ⟨s, O, g, w, sr, st, h'.bind.mono fun rx w1 H1 O1 g1 e1 s1 hx v rv => ⟨s, O1, g1, w1, sr.evo st e1, s1, (hx _ _ _ e1 s1).bind.mono fun ry w2 H2 O2 g2 e2 s2 hy u ru => ?_⟩⟩
  obtain ⟨z, ez, hz⟩ := ((hy _ _ _ e2 s2).bind).of
  have hz := (hz _ _ _ Evo.refl s2).now Evo.refl s2
  refine cmpop_ok hr (s1.repB e2 rv.b) ru.b ez ⟨z, rfl, ?_⟩
  cases z with
  | false =>
    rw [if_neg (by decide)]
    exact endVal s2 (.bl _) hz
  | true =>
    rw [if_pos rfl]
    refine ⟨s, O2, g2, w2, (sr.evo st e1).evo s1 e2, s2, hz.bind.mono fun rt w3 H3 O3 g3 e3 s3 ht t rt' => ?_⟩
    obtain ⟨rz, ez, hz⟩ := (ht _ _ _ e3 s3).of
    simp only [Option.map_eq_some_iff] at ez
    obtain ⟨z, ez, rfl⟩ := ez
    exact cmpop_ok hr (s2.repB e3 ru.b) rt'.b ez (endVal s3 (.bl _) hz)
theorem st_cmp2 {op op' : CmpOp} (hr : Room k X.A) (hm : lastMarks [op, op'] [b, c] = false) (ha : PE X a (tE X.K n G a)) (hb : PE X b (tE X.K n G b)) (hc : PE X c (tE X.K n G c)) : PT X (.Compare a [op, op'] [b, c] pos) (tT X.K (n + 1) G (.Compare a [op, op'] [b, c] pos)) := by
  refine (pt_chain opW opW ha hb hc hm).imp fun σ H Q ⟨s, O, g, w, sr, st, h⟩ => ?_
  have h0 : Pst X.K H O g ((cmpW (ev n G s) a [op, op'] [b, c] w).bind fun x w => R.of (boolOf x) w) (CB Q) := h
  have h' : Pst X.K H O g ((ev n G s a w).bind fun x w => (ev n G s b w).bind fun y w => (R.of (cmpop op x y) w).bind fun z w =>
      (match z with
      | true => (ev n G s c w).bind fun u w => R.of (cmpop op' y u) w
      | false => .ok false w)) (CB Q) := by
    refine cast ?_ h0
    congr 1
    unfold cmpW
    cases ev n G s a w with
    | ok x w1 =>
      simp only [R.bind_ok]
      cases ev n G s b w1 with
      | ok y w2 =>
        simp only [R.bind_ok]
        cases cmpop op x y with
        | none => rfl
        | some z =>
          cases z with
          | false => rfl
          | true =>
            simp only [R.of_some, R.bind_ok]
            cases ev n G s c w2 with
            | ok t w3 =>
              simp only [R.bind_ok]
              cases cmpop op' y t <;> rfl
            | exc c w3 => rfl
            | bad => rfl
      | exc c w2 => rfl
      | bad => rfl
    | exc c w1 => rfl
    | bad => rfl
  refine ⟨s, O, g, w, sr, st, h'.bind.mono fun rx w1 H1 O1 g1 e1 s1 hx v rv => ⟨s, O1, g1, w1, sr.evo st e1, s1, (hx _ _ _ e1 s1).bind.mono fun ry w2 H2 O2 g2 e2 s2 hy u ru => ?_⟩⟩
  obtain ⟨z, ez, hz⟩ := ((hy _ _ _ e2 s2).bind).of
  have hz := (hz _ _ _ Evo.refl s2).now Evo.refl s2
  refine cmpop_ok hr (s1.repB e2 rv.b) ru.b ez ⟨z, rfl, ?_⟩
  cases z with
  | false =>
    rw [if_neg (by decide)]
    exact ⟨false, rfl, hz _ _ _ Evo.refl s2⟩
  | true =>
    rw [if_pos rfl]
    refine ⟨s, O2, g2, w2, (sr.evo st e1).evo s1 e2, s2, hz.bind.mono fun rt w3 H3 O3 g3 e3 s3 ht t rt' => ?_⟩
    obtain ⟨z, ez, hz⟩ := (ht _ _ _ e3 s3).of
    exact cmpop_ok hr (s2.repB e3 ru.b) rt'.b ez ⟨z, rfl, hz _ _ _ Evo.refl s3⟩

/-! ### a value frozen -/
theorem frz_ok {K : PySem.W.Frag} {H H' : Hp} {O O' : Os} {g g' : Gh} {w : Wd} {v : V} {r : RV} {d : D} (wf : Wf H O g) (e : Evo H O g H' O' g') (s : St3 K H' O' g' w) (h : RepV g' O' H H' v r) (hf : frz r = some d) : ∃ O'', Evo H O g H' O'' g' ∧ St3 K H' O'' g' w ∧ Rep g' O'' H' v d := by
  cases r with
  | val d' => cases hf; exact ⟨O', e, s, h⟩
  | own ds =>
    cases hf
    obtain ⟨a, rfl, o, n, f, l⟩ := h
    exact ⟨remO O' a, e.rem wf f, s.rem n, l.rep⟩
  | bor ds => cases hf
theorem sv_if (ht : PT X c (tT X.K n G c)) (ha : PE X a (tE X.K n G a)) (hb : PE X b (tE X.K n G b)) : PE X (.IfExp c a b pos) (tE X.K (n + 1) G (.IfExp c a b pos)) := by
  refine (pe_ifExp ht ha hb).imp fun σ H Q ⟨s, O, g, w, sr, st, h⟩ => ?_
  have h0 : Pst X.K H O g (ifW (ev n G s) c a b w) (CV H Q) := h
  have h' : Pst X.K H O g ((tstW (ev n G s) c w).bind fun z w => match z with
      | true => (ev n G s a w).bind fun y w => R.of ((frz y).map .val) w
      | false => (ev n G s b w).bind fun y w => R.of ((frz y).map .val) w) (CV H Q) := by
    refine cast ?_ h0
    congr 1
    unfold ifW tstW
    cases ev n G s c w with
    | ok x w1 =>
      simp only [R.bind_ok]
      cases boolOf x with
      | none => rfl
      | some z => cases z <;> rfl
    | exc c w1 => rfl
    | bad => rfl
  refine ⟨s, O, g, w, sr, st, h'.bind.mono fun z w1 H1 O1 g1 e1 s1 hx => ?_⟩
  have hx := hx.now e1 s1
  have fin : ∀ (x : Expr) (h : Pst X.K H1 O1 g1 ((ev n G s x w1).bind fun y w => R.of ((frz y).map .val) w) (CV H Q)), tE X.K n G x σ H1 Q := fun x h => by
    refine ⟨s, O1, g1, w1, sr.evo st e1, s1, h.bind.mono fun ry w2 H2 O2 g2 e2 s2 hy v rv => ?_⟩
    cases hf : frz ry with
    | none => have q := hy.now e2 s2; rw [hf] at q; exact q.elim
    | some d =>
      obtain ⟨O3, e3, s3, r3⟩ := frz_ok s1.wf e2 s2 rv hf
      have q := hy.now e3 s3
      rw [hf] at q
      exact endVal s3 r3 q
  cases z with
  | true =>
    show tE X.K n G a σ H1 Q
    exact fin a hx
  | false =>
    show tE X.K n G b σ H1 Q
    exact fin b hx

/-! ### argument lists -/
def RepA (g : Gh) (O : Os) (H : Hp) (v : V) : RV → Prop
  | .val d => Rep g O H v d
  | .own ds => Rep g O H v (.list ds)
  | .bor ds => ∃ a, v = .ref a ∧ O a ∧ ¬ WA g a ∧ LAt g O H a ds
theorem St3.repA {K : PySem.W.Frag} {H H' : Hp} {O O' : Os} {g g' : Gh} {w : Wd} (s : St3 K H O g w) (e : Evo H O g H' O' g') {v : V} {r : RV} (h : RepA g O H v r) : RepA g' O' H' v r := by
  cases r with
  | val d => exact s.rep e h
  | own ds => exact s.rep e h
  | bor ds => obtain ⟨a, q, o, n, l⟩ := h; exact ⟨a, q, e.omono a o, WA.of_evo e l.al n, s.lat e n l⟩
theorem frzA {K : PySem.W.Frag} {H H' : Hp} {O O' : Os} {g g' : Gh} {w : Wd} {v : V} {r : RV} (wf : Wf H O g) (e : Evo H O g H' O' g') (s : St3 K H' O' g' w) (h : RepV g' O' H H' v r) : ∃ O'', Evo H O g H' O'' g' ∧ St3 K H' O'' g' w ∧ RepA g' O'' H' v r := by
  cases r with
  | val d' => exact ⟨O', e, s, h⟩
  | own ds =>
    obtain ⟨a, rfl, o, n, f, l⟩ := h
    exact ⟨remO O' a, e.rem wf f, s.rem n, l.rep⟩
  | bor ds => exact ⟨O', e, s, h⟩
def CA (Q : List V → Hp → Prop) : List RV → Wd → Hp → Os → Gh → Prop := fun rs _ H' O' g' => ∀ vs, Paired (RepA g' O' H') vs rs → Q vs H'
def tA (K : PySem.W.Frag) (n : Nat) (G : Cn) (es : List Expr) : TA := fun σ H Q => ∃ s O g w, SRep g O H σ s ∧ St3 K H O g w ∧ Pst K H O g (evsW (ev n G s) es w) (CA Q)
theorem star_of {n : Nat} {N : List Str} {sc : Scope} {env : Env} {es : List Expr} (h : chk n N sc e = true) : starEach (e :: es) env = (false, eval e env) :: starEach es env := by
  cases n with
  | zero => simp [chk] at h
  | succ n => cases e <;> first | rfl | (simp [chk] at h)
theorem stars_of {n : Nat} {N : List Str} {sc : Scope} {env : Env} : ∀ {es : List Expr}, (∀ e ∈ es, chk n N sc e = true) → starEach es env = es.map fun e => (false, eval e env)
  | [], _ => rfl
  | e :: es, h => by rw [star_of (h e (by simp)), stars_of fun e he => h e (List.mem_cons_of_mem _ he)]; rfl
theorem plain_of {n : Nat} {N : List Str} {sc : Scope} {env : Env} {pos : Pos} {es : List Expr} (h : ∀ e ∈ es, chk n N sc e = true) : (backTo pos (starEach es env)).any (·.1) = false := by
  rw [stars_of h]
  unfold backTo
  induction es with
  | nil => rfl
  | cons e es ih => simpa using ih fun e he => h e (List.mem_cons_of_mem _ he)
theorem sv_args {N : List Str} {sc : Scope} {m : Nat} : ∀ {es : List Expr}, (∀ e ∈ es, chk m N sc e = true) → (∀ e ∈ es, PE X e (tE X.K n G e)) → PA X es (tA X.K n G es)
  | [], _, _ => pa_nil.imp fun σ H Q ⟨s, O, g, w, sr, st, h⟩ => h _ _ _ Evo.refl st [] .nil
  | e :: es, hs, ih => by
    refine (pa_cons (ih e (by simp)) (sv_args (fun e he => hs e (List.mem_cons_of_mem _ he)) fun e he => ih e (List.mem_cons_of_mem _ he)) (star_of (hs e (by simp)))).imp fun σ H Q ⟨s, O, g, w, sr, st, h⟩ => ?_
    have h' : Pst X.K H O g ((ev n G s e w).bind fun v w => (evsW (ev n G s) es w).bind fun vs w => .ok (v :: vs) w) (CA Q) := h
    refine ⟨s, O, g, w, sr, st, h'.bind.mono fun rx w1 H1 O1 g1 e1 s1 hx v rv => ?_⟩
    obtain ⟨O2, e2, s2, ra⟩ := frzA st.wf e1 s1 rv
    refine ⟨s, O2, g1, w1, sr.evo st e2, s2, (hx.now e2 s2).bind.mono fun rs w3 H3 O3 g3 e3 s3 hy us ru => ?_⟩
    exact (hy.now e3 s3) _ _ _ Evo.refl s3 (v :: us) (.cons (s2.repA e3 ra) ru)
theorem RepA.rb {g : Gh} {O : Os} {H : Hp} {v : V} {r : RV} (w : Wf H O g) (h : RepA g O H v r) : RepB g O H v r := by
  cases r with
  | val d => exact h
  | own ds =>
    have h' : Rep g O H v (.list ds) := h
    cases h' with
    | lst h1 n r1 => exact ⟨_, rfl, fun z => n (w.wao _ z), _, h1, r1⟩
  | bor ds => obtain ⟨a, e, _, n, l⟩ := h; exact ⟨a, e, n, l⟩
theorem repAs_b {g : Gh} {O : Os} {H : Hp} {vs : List V} {rs : List RV} (w : Wf H O g) (h : Paired (RepA g O H) vs rs) : RepBs g O H vs rs := TM.Paired.imp (fun _ _ h => RepA.rb w h) h
theorem repAs_dat {g : Gh} {O : Os} {H : Hp} : ∀ {vs : List V} {rs : List RV} {ds : List D}, Paired (RepA g O H) vs rs → datS rs = some ds → Reps g O H vs ds
  | _, _, ds, .nil, e => by
    have e' : ([] : List D) = ds := Option.some.inj e
    subst e'; exact .nil
  | _, _, ds, .cons (b := r) h t, e => by
    cases r with
    | val d =>
      simp only [datS, Option.map_eq_some_iff] at e
      obtain ⟨es, e1, rfl⟩ := e
      exact .cons h (repAs_dat t e1)
    | own xs =>
      simp only [datS, Option.map_eq_some_iff] at e
      obtain ⟨es, e1, rfl⟩ := e
      exact .cons h (repAs_dat t e1)
    | bor xs => cases e
theorem sv_tup {N : List Str} {sc : Scope} {m : Nat} {es : List Expr} {x1 : Nat} (hs : ∀ e ∈ es, chk m N sc e = true) (ih : ∀ e ∈ es, PE X e (tE X.K n G e)) : PE X (.Tuple es x1 pos) (tE X.K (n + 1) G (.Tuple es x1 pos)) := by
  refine (pe_tup (sv_args hs ih)).imp fun σ H Q ⟨s, O, g, w, sr, st, h⟩ => ?_
  have h' : Pst X.K H O g (tupW (ev n G s) es w) (CV H Q) := h
  refine ⟨s, O, g, w, sr, st, h'.bind.mono fun rs w1 H1 O1 g1 e1 s1 hx vs rv => ?_⟩
  have hx := hx.now e1 s1
  split at hx
  · rename_i ds ed
    have r := repAs_dat rv ed
    split at hx
    · rename_i hl
      refine ⟨by rw [r.length]; exact Nat.le_trans hl cap_line, fun p hp => ?_⟩
      exact endTup s1 r hx hp
    · exact hx.elim
  · exact hx.elim
theorem sv_lst {N : List Str} {sc : Scope} {m : Nat} {es : List Expr} (hs : ∀ e ∈ es, chk m N sc e = true) (ih : ∀ e ∈ es, PE X e (tE X.K n G e)) : PE X (.List es pos) (tE X.K (n + 1) G (.List es pos)) := by
  refine (pe_lst (sv_args hs ih)).imp fun σ H Q ⟨s, O, g, w, sr, st, h⟩ => ?_
  have h' : Pst X.K H O g (lstW (ev n G s) es w) (CV H Q) := h
  refine ⟨s, O, g, w, sr, st, h'.bind.mono fun rs w1 H1 O1 g1 e1 s1 hx vs rv => ?_⟩
  have hx := hx.now e1 s1
  split at hx
  · rename_i ds ed
    have r := repAs_dat rv ed
    split at hx
    · rename_i hl
      refine ⟨by rw [r.length]; exact Nat.le_trans hl cap_line, fun p hp => ?_⟩
      exact endOwn s1 (fun p hp => e1.back hp) r hx hp
    · exact hx.elim
  · exact hx.elim

/-! ### subscripts -/
def CO (Q : Option Int → Hp → Prop) : Option Int → Wd → Hp → Os → Gh → Prop := fun o _ H' _ _ => Q o H'
def tO (K : PySem.W.Frag) (n : Nat) (G : Cn) (e : Option Expr) : TO := fun σ H Q => ∃ s O g w, SRep g O H σ s ∧ St3 K H O g w ∧ Pst K H O g (optW (ev n G s) e w) (CO Q)
theorem sv_opt {o : Option Expr} (ih : ∀ e, o = some e → PE X e (tE X.K n G e)) : PO X o (tO X.K n G o) := by
  cases o with
  | none => exact po_none.imp fun σ H Q ⟨s, O, g, w, sr, st, h⟩ => h _ _ _ Evo.refl st
  | some e =>
    refine (po_some (ih e rfl)).imp fun σ H Q ⟨s, O, g, w, sr, st, h⟩ => ?_
    have h' : Pst X.K H O g ((ev n G s e w).bind fun v w => match v with
      | .val (.int i) => .ok (some i) w
      | _ => .bad) (CO Q) := h
    refine ⟨s, O, g, w, sr, st, h'.bind.mono fun rx w1 H1 O1 g1 e1 s1 hx v rv => ?_⟩
    have hx := hx.now e1 s1
    split at hx
    · cases rv
      exact ⟨_, rfl, hx _ _ _ Evo.refl s1⟩
    · exact hx.elim
theorem sv_slice {lo hi : Option Expr} {p2 : Pos} (ha : PE X a (tE X.K n G a)) (hl : PO X lo (tO X.K n G lo)) (hh : PO X hi (tO X.K n G hi)) : PE X (.Subscript a (.Slice lo hi none p2) pos) (tE X.K (n + 1) G (.Subscript a (.Slice lo hi none p2) pos)) := by
  refine (pe_slice slW ha hl hh).imp fun σ H Q ⟨s, O, g, w, sr, st, h⟩ => ?_
  have h' : Pst X.K H O g (subW (ev n G s) a (.Slice lo hi none p2) w) (CV H Q) := h
  refine ⟨s, O, g, w, sr, st, h'.bind.mono fun rx w1 H1 O1 g1 e1 s1 hx v rv => ⟨s, O1, g1, w1, sr.evo st e1, s1, (hx.now e1 s1).bind.mono fun l w2 H2 O2 g2 e2 s2 hy =>
    ⟨s, O2, g2, w2, (sr.evo st e1).evo s1 e2, s2, (hy.now e2 s2).bind.mono fun u w3 H3 O3 g3 e3 s3 hz => ?_⟩⟩⟩
  obtain ⟨rz, ez, hz⟩ := (hz.now e3 s3).of
  exact slop_ok s3 (fun p hp => e1.back (e2.back (e3.back hp))) (s2.repB e3 (s1.repB e2 rv.b)) ez hz
theorem sv_rev {k1 : Nat} {p1 p2 p3 : Pos} (ha : PE X a (tE X.K n G a)) : PE X (.Subscript a (.Slice none none (some (.UnaryOp .USub (.Constant (.int 1) k1 p1) p2)) p3) pos) (tE X.K (n + 1) G (.Subscript a (.Slice none none (some (.UnaryOp .USub (.Constant (.int 1) k1 p1) p2)) p3) pos)) := by
  refine (pe_revL ha).imp fun σ H Q ⟨s, O, g, w, sr, st, h⟩ => ?_
  have h' : Pst X.K H O g ((ev n G s a w).bind fun x w => R.of (x.lst?.map fun ds => .own ds.reverse) w) (CV H Q) := h
  refine ⟨s, O, g, w, sr, st, h'.bind.mono fun rx w1 H1 O1 g1 e1 s1 hx v rv => ?_⟩
  obtain ⟨rz, ez, hz⟩ := (hx.now e1 s1).of
  simp only [Option.map_eq_some_iff] at ez
  obtain ⟨ds, ed, rfl⟩ := ez
  obtain ⟨b, rfl, vs, hb, rb⟩ := rv.b.lst ed
  exact ⟨b, vs, rfl, SqL.of hb, fun p hp => endOwn s1 (fun p hp => e1.back hp) rb.reverse hz hp⟩
theorem sv_ix (hns : ∀ l h s p, b ≠ .Slice l h s p) (ha : PE X a (tE X.K n G a)) (hb : PE X b (tE X.K n G b)) : PE X (.Subscript a b pos) (tE X.K (n + 1) G (.Subscript a b pos)) := by
  have hp : PlainIx b := fun o i => by
    unfold subscripted
    cases b <;> first | rfl | exact absurd rfl (hns _ _ _ _)
  refine (pe_ix ixW ha hb hp).imp fun σ H Q ⟨s, O, g, w, sr, st, h⟩ => ?_
  have h' : Pst X.K H O g ((ev n G s a w).bind fun x w => (ev n G s b w).bind fun y w => R.of (ixop x y) w) (CV H Q) := by
    have h1 : Pst X.K H O g (subW (ev n G s) a b w) (CV H Q) := h
    cases b <;> first | exact h1 | exact absurd rfl (hns _ _ _ _)
  refine ⟨s, O, g, w, sr, st, h'.bind.mono fun rx w1 H1 O1 g1 e1 s1 hx v rv => ⟨s, O1, g1, w1, sr.evo st e1, s1, (hx.now e1 s1).bind.mono fun ry w2 H2 O2 g2 e2 s2 hy u ru => ?_⟩⟩
  obtain ⟨rz, ez, hz⟩ := (hy.now e2 s2).of
  exact ixop_ok s2 (s1.repB e2 rv.b) ru.b ez hz
end
end TM

namespace TM
open PySem PySem.Spec PyProof.Rows L2

theorem lookup_mem {α : Type} : ∀ {l : List (Str × α)} {x : Str} {b : α}, l.lookup x = some b → (x, b) ∈ l
  | [], _, _, h => by simp at h
  | (y, c) :: r, x, b, h => by
    by_cases e : x = y
    · subst e
      simp at h
      subst h
      exact List.mem_cons_self
    · have e' : (x == y) = false := beq_eq_false_iff_ne.mpr e
      rw [List.lookup_cons, e'] at h
      exact List.mem_cons_of_mem _ (lookup_mem h)

/-! ### calls of the program's own defs -/
mutual
theorem Rep.noL {g : Gh} {O O' : Os} {H : Hp} : ∀ {m : Nat} {v : V} {d : D}, Rep g O H v d → TM.noL m d = true → Rep g O' H v d
  | _, _, _, .non, _ => .non
  | _, _, _, .bl b, _ => .bl b
  | _, _, _, .int i, _ => .int i
  | _, _, _, .str x, _ => .str x
  | 0, _, _, .lst h n r, c => by simp [TM.noL] at c
  | m + 1, _, _, .lst h n r, c => by simp [TM.noL] at c
  | 0, _, _, .tup h r, c => by simp [TM.noL] at c
  | m + 1, _, _, .tup h r, c => .tup h (Reps.noL r (by rw [← c]; rfl))
  | 0, _, _, .spc h, c => by simp [TM.noL] at c
  | m + 1, _, _, .spc h, c => by simp [TM.noL] at c
theorem Reps.noL {g : Gh} {O O' : Os} {H : Hp} : ∀ {m : Nat} {vs : List V} {ds : List D}, Reps g O H vs ds → ds.all (TM.noL m) = true → Reps g O' H vs ds
  | _, _, _, .nil, _ => .nil
  | _, _, _, .cons a b, c => by
    simp only [List.all_cons, Bool.and_eq_true] at c
    exact .cons (Rep.noL a c.1) (Reps.noL b c.2)
end
/-- the looked-at lists among the arguments are lent -/
theorem lend {g : Gh} {O : Os} {H : Hp} : ∀ {vs : List V} {rs : List RV}, Paired (RepA g O H) vs rs → ∃ B : List Addr, (∀ a ∈ B, O a ∧ ¬ WA g a) ∧ Reps g (fun b => O b ∧ b ∉ B) H vs (rs.map RV.dat) ∧ (rs.any RV.isBor = false → B = [])
  | _, _, .nil => ⟨[], fun _ h => (nomatch h), .nil, fun _ => rfl⟩
  | _, _, .cons (a := v) (b := r) h t => by
    obtain ⟨B, h1, h2, h3⟩ := lend t
    cases r with
    | val d => exact ⟨B, h1, .cons (Rep.anti (fun _ z => z.1) h) h2, fun z => h3 (by simpa using z)⟩
    | own ds => exact ⟨B, h1, .cons (Rep.anti (fun _ z => z.1) h) h2, fun z => h3 (by simpa using z)⟩
    | bor ds =>
      obtain ⟨a, rfl, o, n, us, l1, l2⟩ := h
      refine ⟨a :: B, fun b hb => ?_, .cons (.lst l1 (fun z => z.2 List.mem_cons_self) (l2.anti fun _ z => z.1)) (h2.anti fun b z => ⟨z.1, fun q => z.2 (List.mem_cons_of_mem _ q)⟩), fun z => by simp at z⟩
      rcases List.mem_cons.mp hb with rfl | hb
      · exact ⟨o, n⟩
      · exact h1 b hb
section
variable {X : Cx} {G : Cn} {n k : Nat} {pos p : Pos} {e a b c : Expr}
/-- a call, by the def's promise -/
theorem call_sp {H0 H : Hp} {O : Os} {g : Gh} {w : Wd} {Q : VK} {f : Str} {vs : List V} {rs : List RV} {K : PySem.W.Frag} {T : Tab} {E : XK} (st : St3 K H O g w) (hb : ∀ p, H p = none → H0 p = none) (ra : Paired (RepA g O H) vs rs) (h : Pst K H O g (callT T f rs w) (CV H0 Q)) : spT K (T f) vs H Q E := by
  obtain ⟨B, b1, b2, b3⟩ := lend ra
  have st' : St3 K H (fun b => O b ∧ b ∉ B) g w := ⟨⟨fun a z => ⟨st.wf.wao a z, fun q => (b1 a q).2 z⟩, fun a z => st.wf.oal a z.1, fun a z => st.wf.ot a z.1⟩, st.wr⟩
  refine ⟨_, g, w, rs.map RV.dat, st', b2, ?_⟩
  unfold callT at h
  cases ht : T f (rs.map RV.dat) w with
  | ok r w2 =>
    rw [ht] at h
    simp only [R.bind_ok] at h
    by_cases hc : (rs.any RV.isBor && !noLRV r) = true
    · rw [if_pos hc] at h
      exact h.elim
    · rw [if_neg hc] at h
      have hc' : B = [] ∨ noLRV r = true := by
        cases hq : rs.any RV.isBor with
        | false => exact .inl (b3 hq)
        | true =>
          right
          rw [hq] at hc
          simpa using hc
      intro H' O' g' e s v rv
      have e2 : Evo H O g H' (fun b => O' b ∨ b ∈ B) g' := ⟨e.keep, e.still, fun b z => by
          by_cases q : b ∈ B
          · exact .inr q
          · exact .inl (e.omono b ⟨z, q⟩), fun b z => z.elim (fun z => (e.onew b z).elim (fun z => .inl z.1) .inr) fun z => .inl (b1 b z).1, e.gpre, e.gnew⟩
      have al : ∀ b ∈ B, H b ≠ none := fun b hb => st.wf.oal b (b1 b hb).1
      have s2 : St3 K H' (fun b => O' b ∨ b ∈ B) g' w2 := ⟨⟨fun a z => .inl (s.wf.wao a z), fun a z => z.elim (s.wf.oal a) fun z => e.still a (al a z), fun a z vs => z.elim (fun z => s.wf.ot a z vs) fun z q => by
          cases hq : H a with
          | none => exact al a z hq
          | some o =>
            have k := e.keep a o hq (b1 a z).2
            rw [q] at k
            cases k
            exact st.wf.ot a (b1 a z).1 vs hq⟩, s.wr⟩
      refine h _ _ _ e2 s2 v ?_
      have rep : ∀ {v : V} {d : D} {m : Nat}, Rep g' O' H' v d → (B = [] ∨ noL m d = true) → Rep g' (fun b => O' b ∨ b ∈ B) H' v d := fun {v d m} r z => by
        rcases z with z | z
        · subst z
          exact r.anti fun b z => z.elim id fun q => nomatch q
        · exact r.noL z
      have reps : ∀ {v : List V} {d : List D} {m : Nat}, Reps g' O' H' v d → (B = [] ∨ d.all (noL m) = true) → Reps g' (fun b => O' b ∨ b ∈ B) H' v d := fun {v d m} r z => by
        rcases z with z | z
        · subst z
          exact r.anti fun b z => z.elim id fun q => nomatch q
        · exact r.noL z
      cases r with
      | val d => exact rep (m := 8) rv hc'
      | own ds =>
        obtain ⟨a, q, o, n, f, us, l1, l2⟩ := rv
        exact ⟨a, q, .inl o, n, hb a f, us, l1, reps (m := 8) l2 hc'⟩
      | bor ds =>
        rcases hc' with z | z
        · obtain ⟨a, q, o, n, us, l1, l2⟩ := rv
          exact ⟨a, q, .inl o, n, us, l1, reps (m := 8) l2 (.inl z)⟩
        · cases z
  | exc c w2 => rw [ht] at h; exact h
  | bad => rw [ht] at h; exact h
theorem sv_call {N : List Str} {sc : Scope} {m : Nat} {x : Str} {args : List Expr} (gd : Good X G k) (hx : glB X.env.scope x = true) (hd : G.dfn x = true) (hs : ∀ e ∈ args, chk m N sc e = true) (ih : ∀ e ∈ args, PE X e (tE X.K n G e)) :
    PE X (.Call (.Name x p) args [] pos) (tE X.K (n + 1) G (.Call (.Name x p) args [] pos)) := by
  obtain ⟨hg, hdb⟩ := gl_of hx
  obtain ⟨fa, fd, ps, hm, hk, hb, F⟩ := gd.dfn x hd
  have pst : ∀ (s : Sl) (w : Wd), ev (n + 1) G s (.Call (.Name x p) args [] pos) w = (evsW (ev n G s) args w).bind fun vs w => callT G.T x vs w := fun s w => by
    show callW G (ev n G s) (.Name x p) args [] w = _
    unfold callW
    dsimp only
    rw [if_pos hd]
  cases args with
  | nil =>
    refine (pe_call0 (E := E0) F gd.room hg hm hk hb .nil pass0 hdb).imp fun σ H Q ⟨s, O, g, w, sr, st, h⟩ => ?_
    rw [pst] at h
    exact call_sp (rs := []) (E := E0) st (fun p hp => hp) .nil h
  | cons a as =>
    refine (pe_call (E := E0) F gd.room hg hm hk hb .nil pass0 (sv_args hs ih) hdb (star_of (hs a (by simp))) (plain_of fun e he => hs e (List.mem_cons_of_mem _ he))).imp fun σ H Q ⟨s, O, g, w, sr, st, h⟩ => ?_
    rw [pst] at h
    refine ⟨s, O, g, w, sr, st, h.bind.mono fun rs w1 H1 O1 g1 e1 s1 hx vs ra => ?_⟩
    show spT X.K (G.T x) (vs ++ []) H1 Q E0
    rw [List.append_nil]
    exact call_sp s1 (fun p hp => e1.back hp) ra (hx.now e1 s1)

/-! ### the builtins -/
theorem blt_name {x : Str} {b : Blt} (h : bltTab.lookup x = some b) : (x, b) ∈ bltTab := lookup_mem h
theorem sv_blt {N : List Str} {sc : Scope} {m : Nat} {x : Str} {bl : Blt} {as : List Expr} (gd : Good X G k) (hx : glB X.env.scope x = true) (hd : G.dfn x = false) (hl : bltTab.lookup x = some bl) (h1 : bl ≠ .range) (h2 : bl ≠ .isinst)
    (hs : ∀ e ∈ a :: as, chk m N sc e = true) (ih : ∀ e ∈ a :: as, PE X e (tE X.K n G e)) :
    PE X (.Call (.Name x p) (a :: as) [] pos) (fun σ H Q => ∃ s O g w, SRep g O H σ s ∧ St3 X.K H O g w ∧ Pst X.K H O g ((evsW (ev n G s) (a :: as) w).bind fun vs w => R.of (bltop bl vs) w) (CV H Q)) := by
  obtain ⟨hg, hdb⟩ := gl_of hx
  have hm := gd.blt x bl hd hl
  have fin : ∀ {t : TE}, PE X (.Call (.Name x p) (a :: as) [] pos) (tCB (cW X (bltVal bl)) (tA X.K n G (a :: as))) → PE X (.Call (.Name x p) (a :: as) [] pos) (fun σ H Q => ∃ s O g w, SRep g O H σ s ∧ St3 X.K H O g w ∧ Pst X.K H O g ((evsW (ev n G s) (a :: as) w).bind fun vs w => R.of (bltop bl vs) w) (CV H Q)) := fun {t} pe => by
    refine pe.imp fun σ H Q ⟨s, O, g, w, sr, st, h⟩ => ?_
    refine ⟨s, O, g, w, sr, st, h.bind.mono fun rs w1 H1 O1 g1 e1 s1 hx vs ra => ?_⟩
    obtain ⟨rz, ez, hz⟩ := (hx.now e1 s1).of
    exact bltop_ok gd.calm s1 (fun p hp => e1.back hp) (repAs_b s1.wf ra) ez hz
  have A := sv_args hs ih
  have st1 := star_of (env := X.env) (es := as) (hs a (by simp))
  have pl1 := plain_of (env := X.env) (pos := pos) (es := as) fun e he => hs e (List.mem_cons_of_mem _ he)
  have mem := blt_name hl
  simp only [bltTab, List.mem_cons, Prod.mk.injEq, List.not_mem_nil, or_false] at mem
  refine fin (t := tC .non) ?_
  rcases mem with ⟨rfl, rfl⟩ | ⟨rfl, rfl⟩ | ⟨rfl, rfl⟩ | ⟨rfl, rfl⟩ | ⟨rfl, rfl⟩ | ⟨rfl, rfl⟩ | ⟨rfl, rfl⟩ | ⟨rfl, rfl⟩ | ⟨rfl, rfl⟩ | ⟨rfl, rfl⟩ | ⟨rfl, rfl⟩ | ⟨rfl, rfl⟩ | ⟨rfl, rfl⟩ | ⟨rfl, rfl⟩
  · exact pe_callB calW hg hm PySem.boot_len A (by decide +kernel) hdb st1 pl1
  · exact pe_callB calW hg hm (by decide +kernel) A (by decide +kernel) hdb st1 pl1
  · exact pe_callB calW hg hm (by decide +kernel) A (by decide +kernel) hdb st1 pl1
  · exact pe_callB calW hg hm (by decide +kernel) A (by decide +kernel) hdb st1 pl1
  · exact pe_callB calW hg hm (by decide +kernel) A (by decide +kernel) hdb st1 pl1
  · exact pe_callB calW hg hm (by decide +kernel) A (by decide +kernel) hdb st1 pl1
  · exact pe_callTy calW hg hm (by decide +kernel) A (by decide +kernel) hdb st1 pl1
  · exact pe_callTy calW hg hm (by decide +kernel) A (by decide +kernel) hdb st1 pl1
  · exact pe_callTy calW hg hm (by decide +kernel) A (by decide +kernel) hdb st1 pl1
  · exact pe_callTy calW hg hm (by decide +kernel) A (by decide +kernel) hdb st1 pl1
  · exact pe_callB calW hg hm (by decide +kernel) A (by decide +kernel) hdb st1 pl1
  · exact pe_callB calW hg hm (by decide +kernel) A (by decide +kernel) hdb st1 pl1
  · exact absurd rfl h1
  · exact absurd rfl h2

/-! ### isinstance -/
theorem tyStr_ok {K : PySem.W.Frag} {g : Gh} {O : Os} {H : Hp} {v : V} {r : RV} {s : String} (h : RepB g O H v r) (e : tyStr r = some s) : TyX K H v (.type s) := by
  cases r with
  | val d =>
    cases d with
    | none => cases e; cases h; exact .base .non
    | bool b => cases e; cases h; exact .base (.bl b)
    | int i => cases e; cases h; exact .base (.int i)
    | str x => cases e; cases h; exact .base (.str x)
    | list ds =>
      cases e
      have h' : Rep g O H v (.list ds) := h
      cases h' with
      | lst h1 n r => exact .base (.lst h1)
    | tuple ds =>
      cases e
      have h' : Rep g O H v (.tuple ds) := h
      cases h' with
      | tup h1 r => exact .base (.tup h1)
    | dict kv => cases e
  | own ds =>
    cases e
    obtain ⟨a, rfl, _, vs, h1, _⟩ := h
    exact .base (.lst h1)
  | bor ds =>
    cases e
    obtain ⟨a, rfl, _, vs, h1, _⟩ := h
    exact .base (.lst h1)
theorem tyStr_mem {r : RV} {s : String} (e : tyStr r = some s) : s ∈ (["int", "bool", "NoneType", "str", "tuple", "list"] : List String) := by
  unfold tyStr at e
  split at e <;> cases e <;> simp
theorem sv_isi {N : List Str} {sc : Scope} {m : Nat} {x t : Str} {pt : Pos} (gd : Good X G k) (hx : glB X.env.scope x = true) (hd : G.dfn x = false) (hl : bltTab.lookup x = some .isinst) (ht : glB X.env.scope t = true)
    (hs : ∀ e ∈ [a, .Name t pt], chk m N sc e = true) (ih : PE X a (tE X.K n G a)) :
    PE X (.Call (.Name x p) [a, .Name t pt] [] pos) (fun σ H Q => ∃ s O g w, SRep g O H σ s ∧ St3 X.K H O g w ∧ Pst X.K H O g ((ev n G s a w).bind fun x w => R.of ((isTy x t).map fun z => .val (.bool z)) w) (CV H Q)) := by
  obtain ⟨hg, hdb⟩ := gl_of hx
  obtain ⟨hgt, hdt⟩ := gl_of ht
  have hm := gd.blt x _ hd hl
  have mem := blt_name hl
  simp only [bltTab, List.mem_cons, Prod.mk.injEq, List.not_mem_nil, or_false, reduceCtorEq, and_false, false_or, and_true] at mem
  subst mem
  cases hT : tyTab.lookup t with
  | none =>
    refine ⟨fun pins s σ H Q I ⟨sl, O, g, w, _, st, q⟩ => ?_⟩
    exfalso
    cases hv : ev n G sl a w with
    | ok rx w1 =>
      rw [hv] at q
      simp only [R.bind_ok] at q
      have : isTy rx t = none := by
        unfold isTy
        rw [hT]
        split <;> rfl
      rw [this] at q
      exact q
    | exc c w1 => rw [hv] at q; exact q
    | bad => rw [hv] at q; exact q
  | some T =>
    have fin : ∀ (hmt : X.mg t = none) (hv : bootBuiltins t = some (.type T)) (hn : t ≠ "__name__") (hk : ∀ s ∈ (["int", "bool", "NoneType", "str", "tuple", "list"] : List String), kitB s T = some (s == T || (s == "bool" && T == "int"))),
        PE X (.Call (.Name "isinstance" p) [a, .Name t pt] [] pos) (fun σ H Q => ∃ s O g w, SRep g O H σ s ∧ St3 X.K H O g w ∧ Pst X.K H O g ((ev n G s a w).bind fun x w => R.of ((isTy x t).map fun z => .val (.bool z)) w) (CV H Q)) := fun hmt hv hn hk => by
      have A : PA X [a, .Name t pt] (tCons (tE X.K n G a) (tCons (tC (.ty T)) tNil)) := pa_cons ih (pa_cons (pe_bltn hgt hmt hv rfl hn hdt) pa_nil) (star_of (hs a (by simp)))
      refine (pe_callB call_isi hg hm PyProof.Rows.boot_isinstance A (by decide +kernel) hdb (star_of (hs a (by simp))) rfl).imp fun σ H Q ⟨s, O, g, w, sr, st, h⟩ => ?_
      refine ⟨s, O, g, w, sr, st, h.bind.mono fun rx w1 H1 O1 g1 e1 s1 hx v rv => ?_⟩
      obtain ⟨rz, ez, hz⟩ := (hx.now e1 s1).of
      simp only [Option.map_eq_some_iff] at ez
      obtain ⟨z, ez, rfl⟩ := ez
      unfold isTy at ez
      split at ez
      · cases ez
      · rename_i sy es
        rw [hT] at ez
        cases ez
        exact ⟨v, .ty T, .type sy, .type T, _, rfl, .ty T, tyStr_ok rv.b es, kit_ty (hk sy (tyStr_mem es)), endVal s1 (.bl _) hz⟩
    have mt := lookup_mem hT
    simp only [tyTab, List.mem_cons, Prod.mk.injEq, List.not_mem_nil, or_false] at mt
    rcases mt with ⟨rfl, rfl⟩ | ⟨rfl, rfl⟩ | ⟨rfl, rfl⟩ | ⟨rfl, rfl⟩ | ⟨rfl, rfl⟩
    all_goals exact fin (gd.ty _ (by simp [tyNames])) (by decide +kernel) (by decide +kernel) (by decide +kernel)
end
end TM

namespace TM
open PySem PySem.Spec PyProof.Rows L2

/-! ### list(range(..)), methods -/
section
variable {X : Cx} {G : Cn} {n k : Nat} {pos p : Pos} {e a b c : Expr}
theorem evsW_length {f : EvF} : ∀ {es : List Expr} {w w' : Wd} {rs : List RV}, evsW f es w = .ok rs w' → rs.length = es.length
  | [], w, w', rs, h => by cases h; rfl
  | e :: r, w, w', rs, h => by
    unfold evsW at h
    cases he : f e w with
    | ok v w1 =>
      rw [he] at h
      simp only [R.bind_ok] at h
      cases hr : evsW f r w1 with
      | ok vs w2 =>
        rw [hr] at h
        simp only [R.bind_ok] at h
        cases h
        simp [evsW_length hr]
      | exc c w2 => rw [hr] at h; cases h
      | bad => rw [hr] at h; cases h
    | exc c w1 => rw [he] at h; cases h
    | bad => rw [he] at h; cases h
theorem evsW_one {f : EvF} {w : Wd} : evsW f [a] w = (f a w).bind fun v w => .ok [v] w := by
  unfold evsW
  cases f a w <;> rfl
theorem evsW_two {f : EvF} {w : Wd} : evsW f [a, b] w = (f a w).bind fun v w => (f b w).bind fun u w => .ok [v, u] w := by
  unfold evsW
  cases f a w with
  | ok v w1 =>
    simp only [R.bind_ok]
    rw [evsW_one]
    cases f b w1 <;> rfl
  | exc c w1 => rfl
  | bad => rfl
theorem bind_assoc {α β γ : Type} (m : R α) (f : α → Wd → R β) (h : β → Wd → R γ) : (m.bind f).bind h = m.bind fun x w => (f x w).bind h := by cases m <;> rfl
theorem rangeL_some {a b c : Int} {ds : List D} (h : rangeL a b c = some ds) : (0 < c ∧ c < 1000000 ∧ -1000000 ≤ a ∧ a ≤ 1000000 ∧ -1000000 ≤ b ∧ b ≤ 1000000) ∧ ds = (List.range ((b - a + c - 1) / c).toNat).map fun (i : Nat) => .int (a + (i : Int) * c) := by
  unfold rangeL at h
  split at h
  · rename_i hc
    cases h
    simp only [Bool.and_eq_true, decide_eq_true_eq] at hc
    exact ⟨⟨hc.1.1.1.1.1, hc.1.1.1.1.2, hc.1.1.1.2, hc.1.1.2, hc.1.2, hc.2⟩, rfl⟩
  · cases h
theorem rangeL_one {a b : Int} {ds : List D} (h : rangeL a b 1 = some ds) : ds = (List.range (b - a).toNat).map fun (i : Nat) => .int (a + (i : Int)) := by
  rw [(rangeL_some h).2, show (b - a + 1 - 1) / 1 = b - a by omega]
  simp
theorem reps_range {g : Gh} {O : Os} {H : Hp} (f : Nat → Int) (m : Nat) : Reps g O H ((List.range m).map fun i => V.int (f i)) ((List.range m).map fun i => .int (f i)) := by
  have h : ∀ l : List Nat, Reps g O H (l.map fun i => V.int (f i)) (l.map fun i => .int (f i)) := fun l => by
    induction l with
    | nil => exact .nil
    | cons x r ih => exact .cons (.int _) ih
  exact h _
theorem sv_listrg {N : List Str} {sc : Scope} {m : Nat} {x gn : Str} {as : List Expr} {pg pr : Pos} (gd : Good X G k) (hx : glB X.env.scope x = true) (hd : G.dfn x = false) (hl : bltTab.lookup x = some .list) (hgx : glB X.env.scope gn = true) (hgd : G.dfn gn = false) (hgl : bltTab.lookup gn = some .range)
    (hs : ∀ e ∈ as, chk m N sc e = true) (ih : ∀ e ∈ as, PE X e (tE X.K n G e)) :
    PE X (.Call (.Name x p) [.Call (.Name gn pg) as [] pr] [] pos) (fun σ H Q => ∃ s O g w, SRep g O H σ s ∧ St3 X.K H O g w ∧ Pst X.K H O g ((evsW (ev n G s) as w).bind fun vs w => (match vs with
        | [_, _, _] => .bad
        | vs => R.of ((rangeA vs).map .own) w)) (CV H Q)) := by
  obtain ⟨hg, hdb⟩ := gl_of hx
  obtain ⟨hg2, hdb2⟩ := gl_of hgx
  have hm := gd.blt x _ hd hl
  have hm2 := gd.blt gn _ hgd hgl
  have mem := blt_name hl
  simp only [bltTab, List.mem_cons, Prod.mk.injEq, List.not_mem_nil, or_false, reduceCtorEq, and_false, false_or, and_true] at mem
  subst mem
  have mem := blt_name hgl
  simp only [bltTab, List.mem_cons, Prod.mk.injEq, List.not_mem_nil, or_false, reduceCtorEq, and_false, false_or, and_true] at mem
  subst mem
  have fin : ∀ {H0 H : Hp} {O : Os} {g : Gh} {w : Wd} {Q : VK} {i j : Int}, St3 X.K H O g w → (∀ p, H p = none → H0 p = none) → Pst X.K H O g (R.of ((rangeL i j 1).map .own) w) (CV H0 Q) → RgOk i j ∧ ∀ q, H q = none → Q (.ref q) (upd H q (.lst (rgV i j))) := fun {H0 H O g w Q i j} st hb h => by
    obtain ⟨rz, ez, hz⟩ := h.of
    simp only [Option.map_eq_some_iff] at ez
    obtain ⟨ds, ed, rfl⟩ := ez
    have hc := (rangeL_some ed).1
    refine ⟨⟨by omega, by omega, by omega, by omega, by omega⟩, fun q hq => ?_⟩
    have e2 := rangeL_one ed
    subst e2
    exact endOwn st hb (reps_range (fun i' => i + (i' : Int)) _) hz hq
  match as, hs, ih with
  | [], hs, ih => exact ⟨fun pins s σ H Q I ⟨sl, O, g, w, _, st, q⟩ => (q : False).elim⟩
  | [a], hs, ih =>
    refine (pe_listRg gd.calm hg hm (prg_1 hg2 hm2 (ih a (by simp)) (star_of (hs a (by simp)))) rfl).imp fun σ H Q ⟨s, O, g, w, sr, st, h⟩ => ?_
    rw [evsW_one, bind_assoc] at h
    refine ⟨s, O, g, w, sr, st, h.bind.mono fun rx w1 H1 O1 g1 e1 s1 hx v rv => ?_⟩
    have hx : Pst X.K H1 O1 g1 (R.of ((rangeA [rx]).map .own) w1) (CV H Q) := hx.now e1 s1
    obtain ⟨rz, ez, hz⟩ := hx.of
    unfold rangeA at ez
    split at ez
    · rename_i i heq
      cases heq
      cases rv
      refine ⟨_, rfl, fin s1 (fun p hp => e1.back hp) ?_⟩
      rw [ez]; exact hz
    · rename_i heq; cases heq
    · rename_i heq; cases heq
    · cases ez
  | [a, b], hs, ih =>
    refine (pe_listRg gd.calm hg hm (prg_2 hg2 hm2 (ih a (by simp)) (ih b (by simp)) (star_of (hs a (by simp))) (star_of (hs b (by simp))) (plain_of fun e he => hs e (List.mem_cons_of_mem _ he))) rfl).imp fun σ H Q ⟨s, O, g, w, sr, st, h⟩ => ?_
    rw [evsW_two, bind_assoc] at h
    refine ⟨s, O, g, w, sr, st, h.bind.mono fun rx w1 H1 O1 g1 e1 s1 hx v rv => ⟨s, O1, g1, w1, sr.evo st e1, s1, ?_⟩⟩
    have hx := hx.now e1 s1
    rw [bind_assoc] at hx
    refine hx.bind.mono fun ry w2 H2 O2 g2 e2 s2 hy u ru => ?_
    have hy : Pst X.K H2 O2 g2 (R.of ((rangeA [rx, ry]).map .own) w2) (CV H Q) := hy.now e2 s2
    obtain ⟨rz, ez, hz⟩ := hy.of
    unfold rangeA at ez
    split at ez
    · rename_i heq; cases heq
    · rename_i i j heq
      cases heq
      cases rv
      cases ru
      refine ⟨_, _, rfl, rfl, fin s2 (fun p hp => e1.back (e2.back hp)) ?_⟩
      rw [ez]; exact hz
    · rename_i heq; cases heq
    · cases ez
  | a :: b :: c :: r, hs, ih =>
    refine ⟨fun pins s σ H Q I ⟨sl, O, g, w, _, st, q⟩ => ?_⟩
    exfalso
    cases he : evsW (ev n G sl) (a :: b :: c :: r) w with
    | ok rs w1 =>
      have hl := evsW_length he
      rw [he] at q
      simp only [R.bind_ok] at q
      match rs, hl with
      | [x, y, z], _ => exact q
      | x :: y :: z :: t :: u, _ =>
        have hn : rangeA (x :: y :: z :: t :: u) = none := by
          unfold rangeA
          split
          · rename_i heq; cases heq
          · rename_i heq; cases heq
          · rename_i heq; cases heq
          · rfl
        dsimp only at q
        rw [hn] at q
        exact q
    | exc c w1 => rw [he] at q; exact q
    | bad => rw [he] at q; exact q
theorem findD_ok {d : D} : ∀ {ds : List D} {j : Nat}, findD d ds = some j → (∃ z, ds[j]? = some z ∧ PyData.eqv z d = true) ∧ ∀ (m : Nat) (z : D), m < j → ds[m]? = some z → PyData.eqv z d = false
  | [], j, h => by simp [findD] at h
  | x :: r, j, h => by
    unfold findD at h
    split at h
    · rename_i hc
      cases h
      exact ⟨⟨x, rfl, hc⟩, fun m z hm => by omega⟩
    · rename_i hc
      simp only [Option.map_eq_some_iff] at h
      obtain ⟨i, hi, rfl⟩ := h
      obtain ⟨⟨z, h1, h2⟩, h3⟩ := findD_ok hi
      refine ⟨⟨z, by simpa using h1, h2⟩, fun m y hm hy => ?_⟩
      cases m with
      | zero =>
        have : x = y := by simpa using hy
        subst this
        simpa using hc
      | succ m => exact h3 m y (by omega) (by simpa using hy)
theorem base_name {x m : Str} {pn : Pos} {env : Env} : attributeBase (.Name x pn) m env (eval (.Name x pn) env) = eval (.Name x pn) env := rfl
theorem few_of {n : Nat} {N : List Str} {sc : Scope} {env : Env} {cpos : Pos} (h : chk n N sc a = true) : ((backTo cpos (starEach [a] env)).all (fun x => !x.1) && (backToKw cpos (keywordEach [] env)).all (fun x => x.1.isSome)
      && decide (([a] : List Expr).length + ([] : List Keyword).length + (if ([] : List Keyword).isEmpty then 0 else 1) < 30)) = true := by
  rw [star_of h]
  rfl
theorem sv_meth {N : List Str} {sc : Scope} {q : Nat} {x m : Str} {px pa : Pos} (ho : PE X (.Name x px) (tE X.K n G (.Name x px))) (hs : chk q N sc a = true) (ih : PE X a (tE X.K n G a)) (hl : (pa.endLine == pos.line) = true) :
    PE X (.Call (.Attribute (.Name x px) m pa) [a] [] pos) (tE X.K (n + 1) G (.Call (.Attribute (.Name x px) m pa) [a] [] pos)) := by
  by_cases hm : m = "index"
  · subst hm
    have A : PA X [a] (tA X.K n G [a]) := sv_args (es := [a]) (m := q) (N := N) (sc := sc) (fun e he => by rw [List.mem_singleton.mp he]; exact hs) fun e he => by rw [List.mem_singleton.mp he]; exact ih
    refine (pe_bm PySem.F.plainAttrs_list PySem.F.slot_list_index PySem.F.type_list_index mt_index ho A base_name (few_of hs) hl (star_of hs) rfl).imp fun σ H Q ⟨s, O, g, w, sr, st, h⟩ => ?_
    have h' : Pst X.K H O g ((ev n G s (.Name x px) w).bind fun x w => (ev n G s a w).bind fun y w => R.of (mtop "index" x [y]) w) (CV H Q) := h
    refine ⟨s, O, g, w, sr, st, h'.bind.mono fun rx w1 H1 O1 g1 e1 s1 hx v rv => ?_⟩
    have hx := hx.now e1 s1
    cases hls : rx.lst? with
    | none =>
      exfalso
      cases hv : ev n G s a w1 with
      | ok ry w2 =>
        rw [hv] at hx
        simp only [R.bind_ok] at hx
        have : mtop "index" rx [ry] = none := by
          unfold mtop
          rw [if_pos rfl, hls]
        rw [this] at hx
        exact hx
      | exc c w2 => rw [hv] at hx; exact hx
      | bad => rw [hv] at hx; exact hx
    | some ds =>
      obtain ⟨b, rfl, vs, hb, rb⟩ := rv.b.lst hls
      refine ⟨.inl ⟨rfl, vs, SqL.of hb⟩, s, O1, g1, w1, sr.evo st e1, s1, ?_⟩
      rw [evsW_one]
      have hx2 : Pst X.K H1 O1 g1 (((ev n G s a w1).bind fun v w => R.ok [v] w).bind fun vs w => R.of (mtop "index" rx vs) w) (CV H Q) := by
        rw [bind_assoc]
        exact hx
      refine hx2.bind.mono fun rs w2 H2 O2 g2 e2 s2 hy us ru => ?_
      obtain ⟨rz, ez, hz⟩ := (hy.now e2 s2).of
      unfold mtop at ez
      rw [if_pos rfl, hls] at ez
      match rs, ru, ez with
      | [ry], ru, ez =>
        dsimp only at ez
        split at ez
        · rename_i hf
          simp only [Bool.and_eq_true] at hf
          simp only [Option.map_eq_some_iff] at ez
          obtain ⟨j, ej, rfl⟩ := ez
          cases ru with
          | cons r1 rt =>
            cases rt
            have rb2 := s1.repB e2 rv.b
            obtain ⟨b2, eb, vs2, hb2, rbs⟩ := rb2.lst hls
            cases eb
            have r1' := (RepA.rb s2.wf r1).flat hf.1
            obtain ⟨⟨z, z1, z2⟩, z3⟩ := findD_ok ej
            obtain ⟨y, y1, y2⟩ := rbs.get z1
            have fz : ∀ (i : Nat) (z : D), ds[i]? = some z → flatD z = true := fun i z hz => List.all_eq_true.mp hf.2 z (List.mem_of_getElem? hz)
            refine ⟨b, vs2, _, j, y, rfl, rfl, SqL.of hb2, r1'.flat hf.1, rbs.flat hf.2, y1, ?_, fun m y' hm hy' => ?_, endVal s2 (.int _) hz⟩
            · rw [y2.eqV r1' (fz j z z1) hf.1]; exact z2
            · obtain ⟨z', hz', rz'⟩ := rbs.get' hy'
              rw [rz'.eqV r1' (fz m z' hz') hf.1]
              exact z3 m z' hm hz'
        · cases ez
      | [], ru, ez => cases ez
      | _ :: _ :: _, ru, ez => cases ez
  · refine pe_no fun s w r w' hv => ?_
    have hv : callW G (ev n G s) (.Attribute (.Name x px) m pa) [a] [] w = .ok r w' := hv
    unfold callW at hv
    dsimp only at hv
    cases h1 : ev n G s (.Name x px) w with
    | ok rx w1 =>
      rw [h1] at hv
      simp only [R.bind_ok] at hv
      cases h2 : ev n G s a w1 with
      | ok ry w2 =>
        rw [h2] at hv
        simp only [R.bind_ok] at hv
        unfold mtop at hv
        rw [if_neg hm] at hv
        cases hv
      | exc c w2 => rw [h2] at hv; cases hv
      | bad => rw [h2] at hv; cases hv
    | exc c w1 => rw [h1] at hv; cases hv
    | bad => rw [h1] at hv; cases hv
end
end TM

namespace TM
open PySem PySem.Spec PyProof.Rows L2

/-! ### what is walked -/
abbrev Rel6 := Hp → Os → Gh → Hp → Os → Gh → Prop
def Rel (b : Bool) : Rel6 := match b with
  | true => fun H O g H' O' g' => Evo H O g H' O' g'
  | false => fun H O g H' O' g' => EvoS H O g H' O' g'
def SeqAt (Rl : Rel6) (g : Gh) (O : Os) (H : Hp) (J : It) (ds : List D) : Prop := ∃ (Gp : Hp → Prop) (Y : Nat → Hp → V → Hp → Prop), Walk J ds.length Gp Y ∧ (∀ H' O' g', Rl H O g H' O' g' → Gp H') ∧
  ∀ i H' O' g' x H'', Rl H O g H' O' g' → i < ds.length → Y i H' x H'' → H'' = H' ∧ ∃ d, ds[i]? = some d ∧ Rep g' O' H' x d
def CI (b : Bool) (Q : It → Hp → Prop) : List D → Wd → Hp → Os → Gh → Prop := fun ds _ H' O' g' => ∀ J, SeqAt (Rel b) g' O' H' J ds → Q J H'
def tI (K : PySem.W.Frag) (b : Bool) (n : Nat) (G : Cn) (e : Expr) : TI := fun σ H Q => ∃ s O g w, SRep g O H σ s ∧ St3 K H O g w ∧ Pst K H O g (iterW b G (ev n G s) e w) (CI b Q)
theorem seq_list {K : PySem.W.Frag} {b : Bool} {g : Gh} {O : Os} {H : Hp} {w : Wd} {a : Addr} {vs : List V} {ds : List D} (st : St3 K H O g w) (ha : H a = some (.lst vs)) (r : Reps g O H vs ds) (hk : b = false → ¬ O a) (hw : ¬ WA g a) : SeqAt (Rel b) g O H (Itl K a) ds := by
  have keep : ∀ H' O' g', Rel b H O g H' O' g' → H' a = some (.lst vs) ∧ Reps g' O' H' vs ds := fun H' O' g' e => by
    cases b with
    | true => exact ⟨(e : Evo H O g H' O' g').keep a _ ha hw, st.reps e r⟩
    | false => exact ⟨(e : EvoS H O g H' O' g').keep a _ ha (hk rfl), r.evoS e st.wf⟩
  refine ⟨_, _, by rw [← r.length]; exact walk_list (K := K) (a := a) (xs := vs), fun H' O' g' e => SqL.of (keep H' O' g' e).1, fun i H' O' g' x H'' e hi y => ?_⟩
  obtain ⟨e1, e2⟩ := y
  obtain ⟨d, h1, h2⟩ := (keep H' O' g' e).2.get' e2
  exact ⟨e1, d, h1, h2⟩
theorem seq_tup {K : PySem.W.Frag} {b : Bool} {g : Gh} {O : Os} {H : Hp} {w : Wd} {a : Addr} {vs : List V} {ds : List D} (st : St3 K H O g w) (ha : H a = some (.tup vs)) (r : Reps g O H vs ds) : SeqAt (Rel b) g O H (Itt K a) ds := by
  have ho : ¬ O a := fun z => st.wf.ot a z vs ha
  have keep : ∀ H' O' g', Rel b H O g H' O' g' → H' a = some (.tup vs) ∧ Reps g' O' H' vs ds := fun H' O' g' e => by
    cases b with
    | true => exact ⟨(e : Evo H O g H' O' g').keep a _ ha fun z => ho (st.wf.wao a z), st.reps e r⟩
    | false => exact ⟨(e : EvoS H O g H' O' g').keep a _ ha ho, r.evoS e st.wf⟩
  refine ⟨_, _, by rw [← r.length]; exact walk_tup (K := K) (a := a) (xs := vs), fun H' O' g' e => SqT.of (keep H' O' g' e).1, fun i H' O' g' x H'' e hi y => ?_⟩
  obtain ⟨e1, e2⟩ := y
  obtain ⟨d, h1, h2⟩ := (keep H' O' g' e).2.get' e2
  exact ⟨e1, d, h1, h2⟩
theorem seq_fn {J : It} {Rl : Rel6} {g : Gh} {O : Os} {H : Hp} {m : Nat} {f : Nat → Int} {ds : List D} (hd : ds = (List.range m).map fun i => .int (f i)) (hw : Walk J m (fun _ => True) (YFn fun i => .int (f i))) : SeqAt Rl g O H J ds := by
  have hl : ds.length = m := by rw [hd]; simp
  refine ⟨_, _, by rw [hl]; exact hw, fun _ _ _ _ => trivial, fun i H' O' g' x H'' e hi y => ?_⟩
  obtain ⟨e1, e2⟩ := y
  subst e2
  refine ⟨e1, _, ?_, .int (f i)⟩
  rw [hl] at hi
  rw [hd]
  simp [hi]
theorem range_len {a b c : Int} (hc : 0 < c) : Builtin.Range.rangeSize a b c = (((b - a + c - 1) / c).toNat : Int) := by
  unfold Builtin.Range.rangeSize
  rw [if_pos hc]
  split
  · rename_i h
    have e : b - a + c - 1 = b - a - 1 + 1 * c := by omega
    rw [e, Int.add_mul_ediv_right _ _ (by omega)]
    have : 0 ≤ (b - a - 1) / c := Int.ediv_nonneg (by omega) (by omega)
    omega
  · rename_i h
    have : (b - a + c - 1) / c ≤ 0 := by
      have h1 : (b - a + c - 1) / c ≤ (c - 1) / c := Int.ediv_le_ediv hc (by omega)
      have h2 : (c - 1) / c = 0 := Int.ediv_eq_zero_of_lt (by omega) (by omega)
      omega
    omega
theorem range_small {a b c : Int} (hc : 0 < c) (hc2 : c < 1000000) (h1 : -1000000 ≤ a) (h2 : a ≤ 1000000) (h3 : -1000000 ≤ b) (h4 : b ≤ 1000000) : Builtin.Range.small a b c = true := by
  have hn : 0 ≤ Builtin.Range.rangeSize a b c ∧ Builtin.Range.rangeSize a b c ≤ 4000000 := by
    unfold Builtin.Range.rangeSize
    rw [if_pos hc]
    split
    · rename_i h
      have k1 : 0 ≤ (b - a - 1) / c := Int.ediv_nonneg (by omega) (by omega)
      have k2 : (b - a - 1) / c ≤ b - a - 1 := Int.ediv_le_self _ (by omega)
      omega
    · omega
  unfold Builtin.Range.small
  generalize Builtin.Range.rangeSize a b c = m at hn
  simp only [Builtin.Range.rangeFitsLong, Bool.and_eq_true, Bool.or_eq_true, decide_eq_true_eq, beq_iff_eq, show c > 0 from hc, if_true]
  omega
section
variable {X : Cx} {G : Cn} {n k : Nat} {pos p : Pos} {e a b c tg : Expr}
theorem isRange_some {as : List Expr} (h : isRange G e = some as) : ∃ gn pg pr, e = .Call (.Name gn pg) as [] pr ∧ G.dfn gn = false ∧ bltTab.lookup gn = some Blt.range := by
  unfold isRange at h
  split at h
  · split at h
    · rename_i hc
      cases h
      simp only [Bool.and_eq_true, Bool.not_eq_true', decide_eq_true_eq] at hc
      exact ⟨_, _, _, rfl, hc.1, hc.2⟩
    · cases h
  · cases h
theorem evsW_three {f : EvF} {w : Wd} : evsW f [a, b, c] w = (f a w).bind fun v w => (f b w).bind fun u w => (f c w).bind fun t w => .ok [v, u, t] w := by
  unfold evsW
  cases f a w with
  | ok v w1 =>
    simp only [R.bind_ok]
    rw [evsW_two]
    cases f b w1 with
    | ok u w2 =>
      simp only [R.bind_ok]
      cases f c w2 <;> rfl
    | exc c w1 => rfl
    | bad => rfl
  | exc c w1 => rfl
  | bad => rfl
theorem sv_range {N : List Str} {sc : Scope} {m : Nat} {bb : Bool} {gn : Str} {as : List Expr} {pg pr : Pos} (gd : Good X G k) (hgx : glB X.env.scope gn = true) (hgd : G.dfn gn = false) (hgl : bltTab.lookup gn = some .range)
    (hs : ∀ e ∈ as, chk m N sc e = true) (ih : ∀ e ∈ as, PE X e (tE X.K n G e)) :
    PI X tg (.Call (.Name gn pg) as [] pr) (fun σ H Q => ∃ s O g w, SRep g O H σ s ∧ St3 X.K H O g w ∧ Pst X.K H O g ((evsW (ev n G s) as w).bind fun vs w => R.of (rangeA vs) w) (CI bb Q)) := by
  obtain ⟨hg2, hdb2⟩ := gl_of hgx
  have hm2 := gd.blt gn _ hgd hgl
  have mem := blt_name hgl
  simp only [bltTab, List.mem_cons, Prod.mk.injEq, List.not_mem_nil, or_false, reduceCtorEq, and_false, false_or, and_true] at mem
  subst mem
  have A := sv_args hs ih
  refine ⟨fun pins sh σ H Q I ⟨s, O, g, w, sr, st, h⟩ => ?_⟩
  cases hev : evsW (ev n G s) as w with
  | exc c w1 => rw [hev] at h; exact h.elim
  | bad => rw [hev] at h; exact h.elim
  | ok rs w1 =>
    rw [hev] at h
    simp only [R.bind_ok] at h
    obtain ⟨ds, ed, hz⟩ := h.of
    have hl := evsW_length hev
    unfold rangeA at ed
    split at ed
    · rename_i j
      match as, hl, hs, A, hev with
      | [a], _, hs, A, hev =>
        refine (pi_range1 hg2 hm2 A (star_of (hs a (by simp)))).run pins sh σ H Q I ⟨s, O, g, w, sr, st, ?_⟩
        rw [hev]
        intro H1 O1 g1 e1 s1 vs ra
        cases ra with
        | cons r1 rt =>
          cases rt; cases r1
          have hc := (rangeL_some ed).1
          refine ⟨j, rfl, by omega, by omega, hz _ _ _ e1 s1 _ (seq_fn (m := j.toNat) (f := fun i => 0 + (i : Int)) ?_ walk_range)⟩
          rw [rangeL_one ed]
          simp
    · rename_i i j
      match as, hl, hs, A, hev with
      | [a, b], _, hs, A, hev =>
        refine (pi_range2 hg2 hm2 A ?_ (star_of (hs b (by simp)))).run pins sh σ H Q I ⟨s, O, g, w, sr, st, ?_⟩
        · rw [star_of (hs a (by simp)), star_of (hs b (by simp))]; rfl
        rw [hev]
        intro H1 O1 g1 e1 s1 vs ra
        cases ra with
        | cons r1 rt =>
          cases rt with
          | cons r2 rt =>
            cases rt; cases r1; cases r2
            have hc := (rangeL_some ed).1
            refine ⟨i, j, rfl, ⟨by omega, by omega, by omega, by omega⟩, hz _ _ _ e1 s1 _ (seq_fn (m := (j - i).toNat) (f := fun t => i + (t : Int)) ?_ walk_range)⟩
            rw [rangeL_one ed]
    · rename_i i j c'
      match as, hl, hs, A, hev with
      | [a, b, c], _, hs, A, hev =>
        refine (pi_range3 hg2 hm2 A (star_of (hs a (by simp))) (plain_of fun e he => hs e (List.mem_cons_of_mem _ he))).run pins sh σ H Q I ⟨s, O, g, w, sr, st, ?_⟩
        rw [hev]
        intro H1 O1 g1 e1 s1 vs ra
        cases ra with
        | cons r1 rt =>
          cases rt with
          | cons r2 rt =>
            cases rt with
            | cons r3 rt =>
              cases rt; cases r1; cases r2; cases r3
              obtain ⟨hc, he⟩ := rangeL_some ed
              refine ⟨i, j, c', _, rfl, ⟨by omega, by omega, range_small hc.1 hc.2.1 hc.2.2.1 hc.2.2.2.1 hc.2.2.2.2.1 hc.2.2.2.2.2, range_len hc.1⟩, hz _ _ _ e1 s1 _ (seq_fn (m := ((j - i + c' - 1) / c').toNat) (f := fun t => i + (t : Int) * c') he walk_rangeC)⟩
    · cases ed
theorem sv_iter {N : List Str} {m : Nat} {bb : Bool} (gd : Good X G k) (hc : chk m N X.env.scope e = true) (he : PE X e (tE X.K n G e)) (ih : ∀ as, isRange G e = some as → ∀ e ∈ as, chk m N X.env.scope e = true ∧ PE X e (tE X.K n G e)) (hgl : ∀ gn pg as pr, e = .Call (.Name gn pg) as [] pr → glB X.env.scope gn = true) :
    PI X tg e (tI X.K bb n G e) := by
  cases hr : isRange G e with
  | some as =>
    obtain ⟨gn, pg, pr, rfl, h1, h2⟩ := isRange_some hr
    refine ⟨fun pins sh σ H Q I ⟨s, O, g, w, sr, st, h⟩ => ?_⟩
    refine (sv_range (bb := bb) gd (hgl gn pg as pr rfl) h1 h2 (fun e he => (ih as hr e he).1) fun e he => (ih as hr e he).2).run pins sh σ H Q I ⟨s, O, g, w, sr, st, ?_⟩
    unfold iterW at h
    rw [hr] at h
    exact h
  | none =>
    refine ⟨fun pins sh σ H Q I ⟨s, O, g, w, sr, st, h⟩ => ?_⟩
    unfold iterW at h
    rw [hr] at h
    dsimp only at h
    cases hev : ev n G s e w with
    | exc c w1 => rw [hev] at h; exact h.elim
    | bad => rw [hev] at h; exact h.elim
    | ok rx w1 =>
      rw [hev] at h
      simp only [R.bind_ok] at h
      by_cases hb : (rx.isBor && !bb) = true
      · rw [if_pos hb] at h; exact h.elim
      · rw [if_neg hb] at h
        obtain ⟨ds, ed, hz⟩ := h.of
        by_cases ht : ∃ xs, rx = .val (.tuple xs)
        · obtain ⟨xs, rfl⟩ := ht
          have e1 : xs = ds := Option.some.inj ed
          subst e1
          refine (pi_tup he).run pins sh σ H Q I ⟨s, O, g, w, sr, st, ?_⟩
          rw [hev]
          intro H1 O1 g1 e1 s1 v rv
          have rv' : Rep g1 O1 H1 v (.tuple xs) := rv
          cases rv' with
          | tup h1 r1 => exact ⟨_, rfl, ⟨_, SqT.of h1⟩, hz _ _ _ e1 s1 _ (seq_tup s1 h1 r1)⟩
        · have el : rx.lst? = some ds := by
            unfold seqOf at ed
            split at ed
            · exact absurd ⟨_, rfl⟩ ht
            · exact ed
          refine (pi_list he).run pins sh σ H Q I ⟨s, O, g, w, sr, st, ?_⟩
          rw [hev]
          intro H1 O1 g1 e1 s1 v rv
          cases rx with
          | val d =>
            cases d with
            | list xs =>
              cases el
              have rv' : Rep g1 O1 H1 v (.list ds) := rv
              cases rv' with
              | lst h1 n1 r1 => exact ⟨_, rfl, ⟨_, SqL.of h1⟩, hz _ _ _ e1 s1 _ (seq_list s1 h1 r1 (fun _ => n1) fun z => n1 (s1.wf.wao _ z))⟩
            | _ => cases el
          | own xs =>
            cases el
            obtain ⟨a, rfl, o, nw, f, vs, l1, l2⟩ := rv
            refine ⟨a, rfl, ⟨_, SqL.of l1⟩, hz _ _ _ (e1.rem st.wf f) (s1.rem nw) _ (seq_list (s1.rem nw) l1 (l2.anti fun _ z => z.1) (fun _ z => z.2 rfl) nw)⟩
          | bor xs =>
            cases el
            obtain ⟨a, rfl, o, nw, vs, l1, l2⟩ := rv
            have hbb : bb = true := by simpa using hb
            refine ⟨a, rfl, ⟨_, SqL.of l1⟩, hz _ _ _ e1 s1 _ (seq_list s1 l1 l2 (fun z => by rw [hbb] at z; cases z) nw)⟩
end

/-! ### targets -/
theorem SRep.setV {g : Gh} {O : Os} {H : Hp} {σ : L2.St} {s : Sl} {v : V} {d : D} (sr : SRep g O H σ s) (i : Nat) (r : Rep g O H v d) : SRep g O H (σ.set i (some v)) (s.set i (some (.val d))) := by
  refine ⟨by rw [List.length_set, List.length_set]; exact sr.len, fun j q hj => ?_, fun a b x ds es hab h1 h2 h3 h4 => ?_⟩
  · by_cases e : i = j
    · subst e
      have hl : i < s.length := by
        have := (List.getElem?_eq_some_iff.mp hj).1
        simpa using this
      rw [List.getElem?_set_self hl] at hj
      cases hj
      exact ⟨v, by rw [List.getElem?_set_self (by rw [← sr.len]; exact hl)], r⟩
    · rw [List.getElem?_set_ne e] at hj
      obtain ⟨u, h1, h2⟩ := sr.at' j q hj
      exact ⟨u, by rw [List.getElem?_set_ne e]; exact h1, h2⟩
  · have ne : ∀ {j : Nat} {es : List D}, (s.set i (some (.val d)))[j]? = some (some (.own es)) → i ≠ j ∧ s[j]? = some (some (.own es)) := fun {j es} h => by
      by_cases e : i = j
      · subst e
        have hl : i < s.length := by
          have := (List.getElem?_eq_some_iff.mp h).1
          simpa using this
        rw [List.getElem?_set_self hl] at h
        cases h
      · rw [List.getElem?_set_ne e] at h
        exact ⟨e, h⟩
    obtain ⟨n1, k1⟩ := ne h1
    obtain ⟨n2, k2⟩ := ne h2
    rw [List.getElem?_set_ne n1] at h3
    rw [List.getElem?_set_ne n2] at h4
    exact sr.ap a b x ds es hab k1 k2 h3 h4
/-- the slots that a target names -/
def tgIx (N : List Str) (e : Expr) : List Nat := match e with
  | .Name x _ => (idx N x).toList
  | .Tuple es _ _ => es.filterMap fun e => match e with
    | .Name x _ => idx N x
    | _ => none
  | _ => []
/-- a name that may be stored -/
def StOk (X : Cx) (x : Str) : Prop := Loc X.env.scope x ∧ (X.fn x = true ∨ X.env.scope.names.lookup x = some .local)
def tTg (K : PySem.W.Frag) (N : List Str) (e : Expr) : TG := fun v σ H Q => ∃ s O g w d s', SRep g O H σ s ∧ St3 K H O g w ∧ Rep g O H v d ∧ tgt N e d s = some s' ∧ ∀ σ', SRep g O H σ' s' → (∀ vs : List Nat, (∀ i ∈ tgIx N e, i ∈ vs) → wipe σ' vs = wipe σ vs) → Q σ' H
theorem wipe_set {σ : L2.St} {i : Nat} {x : Option V} : ∀ {vs : List Nat}, i ∈ vs → wipe (σ.set i x) vs = wipe σ vs
  | [], h => nomatch h
  | j :: r, h => by
    show (wipe (σ.set i x) r).set j none = (wipe σ r).set j none
    by_cases e : i ∈ r
    · rw [wipe_set e]
    · have e2 : i = j := by
        rcases List.mem_cons.mp h with z | z
        · exact z
        · exact absurd z e
      subst e2
      have hw : ∀ l : List Nat, i ∉ l → wipe (σ.set i x) l = (wipe σ l).set i x := fun l => by
        induction l with
        | nil => intro _; rfl
        | cons t u ih =>
          intro hn
          show (wipe (σ.set i x) u).set t none = ((wipe σ u).set t none).set i x
          rw [ih fun z => hn (List.mem_cons_of_mem _ z), List.set_comm _ _ (fun z => hn (by rw [z]; exact List.mem_cons_self))]
      rw [hw r e, List.set_set]
section
variable {X : Cx} {G : Cn} {pos : Pos}
theorem sv_tgN {x : Str} (hN : X.N.Nodup) (hG : X.N = G.N) (ok : ∀ i, idx G.N x = some i → StOk X x) : PG X (.Name x pos) (tTg X.K G.N (.Name x pos)) := by
  cases hi : idx G.N x with
  | none => exact ⟨fun pins s σ H v u Q I r ⟨sl, O, g, w, d, s', _, _, _, ht, _⟩ => by
      simp only [tgt, hi] at ht
      cases ht⟩
  | some i =>
    obtain ⟨h1, h2⟩ := ok i hi
    refine (pg_name (i := i) hN (by rw [hG]; exact idx_get hi) h1 h2).imp fun v σ H Q ⟨s, O, g, w, d, s', sr, st, r, ht, q⟩ => ?_
    simp only [tgt, hi] at ht
    cases ht
    exact q _ (sr.setV i r) fun vs hv => wipe_set (hv i (by simp [tgIx, hi]))
/-- a tuple of names -/
def tTgs (K : PySem.W.Frag) (N : List Str) (es : List Expr) : TGs := fun vs σ H Q => ∃ s O g w ds s', SRep g O H σ s ∧ St3 K H O g w ∧ Reps g O H vs ds ∧ tgtS N es ds s = some s' ∧ ∀ σ', SRep g O H σ' s' → (∀ is : List Nat, (∀ i ∈ (es.filterMap fun e => match e with | .Name x _ => idx N x | _ => none), i ∈ is) → wipe σ' is = wipe σ is) → Q σ' H
theorem sv_tgs : ∀ {es : List Expr}, X.N.Nodup → X.N = G.N → (∀ x px, .Name x px ∈ es → ∀ i, idx G.N x = some i → StOk X x) → (∀ e ∈ es, ∃ x px, e = .Name x px) → PGs X es (tTgs X.K G.N es)
  | [], hN, hG, _, _ => ⟨fun pins s σ H vs us Q I r ⟨sl, O, g, w, ds, s', sr, st, rs, ht, q⟩ => by
      cases rs with
      | nil =>
        have e1 : sl = s' := Option.some.inj ht
        subst e1
        exact pgs_nil.run pins s σ H [] us Q I r ⟨rfl, q σ sr fun _ _ => rfl⟩
      | cons a b => cases ht⟩
  | e :: es, hN, hG, ok, nm => by
    obtain ⟨x, px, rfl⟩ := nm e (by simp)
    have ih := sv_tgs (es := es) hN hG (fun y py hy => ok y py (List.mem_cons_of_mem _ hy)) fun e he => nm e (List.mem_cons_of_mem _ he)
    have h1 : PG X (.Name x px) (tTg X.K G.N (.Name x px)) := sv_tgN hN hG fun i hi => ok x px (by simp) i hi
    refine ⟨fun pins s σ H vs us Q I r ⟨sl, O, g, w, ds, s', sr, st, rs, ht, q⟩ => ?_⟩
    refine (pgs_cons h1 ih rfl).run pins s σ H vs us Q I r ?_
    cases rs with
    | nil => simp [tgtS] at ht
    | @cons v vr d dr a b =>
      unfold tgtS at ht
      dsimp only at ht
      cases hi : idx G.N x with
      | none => rw [hi] at ht; cases ht
      | some i =>
        rw [hi] at ht
        dsimp only at ht
        refine ⟨v, vr, rfl, sl, O, g, w, d, sl.set i (some (.val d)), sr, st, a, by simp only [tgt, hi], fun σ' sr' hw => ⟨_, O, g, w, dr, s', sr', st, b, ht, fun σ2 sr2 hw2 => q σ2 sr2 fun is his => ?_⟩⟩
        rw [hw2 is fun j hj => his j (by simp [hi]; right; simpa using hj), hw is fun j hj => his j (by simp [tgIx, hi] at hj; simp [hi, hj])]
theorem ae_names : ∀ {es : List Expr} {env : Env}, (∀ e ∈ es, ∃ x px, e = .Name x px) → (assignEach es env).length = es.length ∧ (assignEach es env).findIdx? (·.1) = none
  | [], env, _ => ⟨rfl, rfl⟩
  | e :: es, env, nm => by
    obtain ⟨x, px, rfl⟩ := nm e (by simp)
    obtain ⟨h1, h2⟩ := ae_names (es := es) (env := env) fun e he => nm e (List.mem_cons_of_mem _ he)
    refine ⟨by show ((false, _) :: assignEach es env).length = _; simp [h1], ?_⟩
    show ((false, assign (.Name x px) env) :: assignEach es env).findIdx? (·.1) = none
    rw [List.findIdx?_cons]
    simp [h2]
theorem tgtS_len {N : List Str} : ∀ {es : List Expr} {ds : List D} {s s' : Sl}, tgtS N es ds s = some s' → ds.length = es.length
  | [], ds, s, s', h => by
    unfold tgtS at h
    split at h
    · rfl
    · cases h
  | e :: es, ds, s, s', h => by
    unfold tgtS at h
    split at h
    · split at h
      · simp [tgtS_len h]
      · cases h
    · cases h
theorem sv_tg {e : Expr} (hc : X.calm = true) (hN : X.N.Nodup) (hG : X.N = G.N) (ok : ∀ x px, (e = .Name x px ∨ ∃ es k p, e = .Tuple es k p ∧ .Name x px ∈ es) → ∀ i, idx G.N x = some i → StOk X x) (nm : ∀ es k p, e = .Tuple es k p → ∀ e ∈ es, ∃ x px, e = .Name x px) : PG X e (tTg X.K G.N e) := by
  cases e with
  | Name x px => exact sv_tgN hN hG fun i hi => ok x px (.inl rfl) i hi
  | Tuple es kk px =>
    have h := sv_tgs (X := X) (G := G) (es := es) hN hG (fun x p hx => ok x p (.inr ⟨es, kk, px, rfl, hx⟩)) (nm es kk px rfl)
    obtain ⟨a1, a2⟩ := ae_names (env := X.env) (nm es kk px rfl)
    refine (pg_tup hc h a1 a2).imp fun v σ H Q ⟨s, O, g, w, d, s', sr, st, r, ht, q⟩ => ?_
    unfold tgt at ht
    dsimp only at ht
    split at ht
    · rename_i ds
      have r' : Rep g O H v (.tuple ds) := r
      cases r' with
      | tup h1 r1 => exact ⟨_, _, rfl, SqT.of h1, by rw [r1.length]; exact tgtS_len ht, s, O, g, w, ds, s', sr, st, r1, ht, q⟩
    · cases ht
  | _ => exact ⟨fun pins s σ H v u Q I r ⟨sl, O, g, w, d, s', _, _, _, ht, _⟩ => by simp [tgt] at ht⟩
end
end TM

namespace TM
open PySem PySem.Spec PyProof.Rows L2

theorem wipeS_len (s : Sl) : ∀ vs : List Nat, (wipeS s vs).length = s.length
  | [] => rfl
  | i :: r => by
    show ((wipeS s r).set i none).length = s.length
    rw [List.length_set, wipeS_len s r]
theorem wipeS_some {s : Sl} {i : Nat} {x : RV} : ∀ {vs : List Nat}, (wipeS s vs)[i]? = some (some x) → s[i]? = some (some x) ∧ i ∉ vs
  | [], h => ⟨h, by simp⟩
  | j :: r, h => by
    have h' : ((wipeS s r).set j none)[i]? = some (some x) := h
    by_cases e : j = i
    · subst e
      by_cases hl : j < (wipeS s r).length
      · rw [List.getElem?_set_self hl] at h'; cases h'
      · rw [List.getElem?_eq_none (by rw [List.length_set]; omega)] at h'; cases h'
    · rw [List.getElem?_set_ne e] at h'
      obtain ⟨h1, h2⟩ := wipeS_some h'
      exact ⟨h1, fun z => (List.mem_cons.mp z).elim (fun q => e q.symm) h2⟩
theorem SRep.wipe {g : Gh} {O : Os} {H : Hp} {σ : L2.St} {s : Sl} (sr : SRep g O H σ s) (vs : List Nat) : SRep g O H (L2.wipe σ vs) (wipeS s vs) := by
  refine ⟨by rw [wipeS_len, wipe_length]; exact sr.len, fun i r h => ?_, fun i j a ds es hij h1 h2 h3 h4 => ?_⟩
  · obtain ⟨h1, h2⟩ := wipeS_some h
    obtain ⟨v, h3, h4⟩ := sr.at' i r h1
    exact ⟨v, by rw [wipe_out h2]; exact h3, h4⟩
  · obtain ⟨k1, k2⟩ := wipeS_some h1
    obtain ⟨k3, k4⟩ := wipeS_some h2
    rw [wipe_out k2] at h3
    rw [wipe_out k4] at h4
    exact sr.ap i j a ds es hij k1 k3 h3 h4
theorem wipe_idem (σ : L2.St) (vs : List Nat) : L2.wipe (L2.wipe σ vs) vs = L2.wipe σ vs := by
  have h : ∀ l : List Nat, (∀ i ∈ l, i ∈ vs) → ∀ τ : L2.St, L2.wipe (L2.wipe τ l) vs = L2.wipe τ vs := fun l => by
    induction l with
    | nil => intro _ τ; rfl
    | cons i r ih =>
      intro hl τ
      show L2.wipe ((L2.wipe τ r).set i none) vs = _
      rw [wipe_set (hl i (by simp)), ih (fun j hj => hl j (List.mem_cons_of_mem _ hj))]
  exact h vs (fun _ z => z) σ

def tIfs (K : PySem.W.Frag) (n : Nat) (G : Cn) (ifs : List Expr) : TT := fun σ H Q => ∃ s O g w, SRep g O H σ s ∧ St3 K H O g w ∧ Pst K H O g (ifsW (ev n G s) ifs w) (CB Q)
theorem sv_ifs {X : Cx} {G : Cn} {n : Nat} {ifs : List Expr} (ih : ∀ e ∈ ifs, PT X e (tT X.K n G e)) : PTs X ifs (tIfs X.K n G ifs) := by
  match ifs, ih with
  | [], _ => exact ⟨fun pins sh σ H Q I ⟨s, O, g, w, sr, st, h⟩ => pts_nil.run pins sh σ H Q I (h _ _ _ Evo.refl st)⟩
  | [c], ih => exact ⟨fun pins sh σ H Q I h => (pts_one (ih c (by simp))).run pins sh σ H Q I h⟩
  | _ :: _ :: _, _ => exact ⟨fun pins sh σ H Q I ⟨s, O, g, w, sr, st, h⟩ => (h : False).elim⟩
theorem rest_cap {K : PySem.W.Frag} {H : Hp} {O : Os} {g : Gh} {m : R (List D)} {acc : List D} {C : RV → Wd → Hp → Os → Gh → Prop} (h : Pst K H O g (m.bind fun r w => if (acc ++ r).length ≤ cap then .ok (.own (acc ++ r)) w else .bad) C) : acc.length ≤ cap := by
  cases m with
  | ok r w =>
    simp only [R.bind_ok] at h
    split at h
    · rename_i hl
      rw [List.length_append] at hl
      omega
    · exact h.elim
  | exc c w => exact h.elim
  | bad => exact h.elim
theorem lc_read {K : PySem.W.Frag} {G : Cn} {n : Nat} {elt tg iter : Expr} {ifs : List Expr} {sc : Scope} {vs : List Nat} (hvs : vs = (ownOf G.N sc).map (·.2)) (htg : ∀ i ∈ tgIx G.N tg, i ∈ vs) {σ : L2.St} {H : Hp} {Q : VK}
    (h : ∃ s O g w, SRep g O H σ s ∧ St3 K H O g w ∧ Pst K H O g (compW G (ev n G) elt [⟨tg, iter, ifs, 0⟩] sc s w) (CV H Q)) : tLc (tI K true n G iter) (tTg K G.N tg) (tIfs K n G ifs) (tE K n G elt) vs σ H Q := by
  obtain ⟨s, O, g, w, sr, st, h⟩ := h
  unfold compW at h
  dsimp only at h
  rw [if_pos rfl, ← hvs] at h
  refine ⟨s, O, g, w, sr, st, h.bind.mono fun ds w1 H1 O1 g1 e1 s1 hx J sq Dl hD => ?_⟩
  obtain ⟨Gp, Y, wk, hG, hY⟩ := sq
  have hx := hx.now e1 s1
  refine lc_it wk (fun i H' => ∃ O' g' w' acc accV, Evo H1 O1 g1 H' O' g' ∧ St3 K H' O' g' w' ∧ O' Dl ∧ ¬ WA g' Dl ∧ H' Dl = some (.lst accV) ∧ Reps g' O' H' accV acc ∧
    Pst K H1 O1 g1 ((compL (eltW G (ev n G) elt tg ifs (wipeS s vs)) (ds.drop i) w').bind fun r w => if (acc ++ r).length ≤ cap then .ok (.own (acc ++ r)) w else .bad) (CV H Q)) ?_ ?_ ?_ ?_
  · exact ⟨addO O1 Dl, g1, w1, [], [], Evo.newOwn s1.wf hD, s1.newOwn hD, .inr rfl, (s1.wf.fresh hD).2, upd_same, .nil, by simpa using hx⟩
  · rintro i H' hi ⟨O', g', w', acc, accV, ee, _⟩
    exact hG H' O' g' ee
  · rintro i x H' H'' hi ⟨O', g', w', acc, accV, ee, ss, od, nw, hd, ra, rest⟩ hy
    obtain ⟨rfl, d, hdi, rx⟩ := hY i H' O' g' x H'' ee hi hy
    have hdrop : ds.drop i = d :: ds.drop (i + 1) := by
      obtain ⟨hl, e⟩ := List.getElem?_eq_some_iff.mp hdi
      rw [List.drop_eq_getElem_cons hl, e]
    have hcap := rest_cap rest
    rw [hdrop] at rest
    unfold compL at rest
    have hev : ∃ o w3, eltW G (ev n G) elt tg ifs (wipeS s vs) d w' = .ok o w3 := by
      cases q : eltW G (ev n G) elt tg ifs (wipeS s vs) d w' with
      | ok o w3 => exact ⟨o, w3, rfl⟩
      | exc c w3 => rw [q] at rest; exact rest.elim
      | bad => rw [q] at rest; exact rest.elim
    obtain ⟨o, w3, hev⟩ := hev
    rw [hev] at rest
    simp only [R.bind_ok] at rest
    rw [bind_assoc] at rest
    unfold eltW at hev
    split at hev
    · cases hev
    · rename_i s' hts
      refine ⟨wipeS s vs, O', g', w', d, s', ((sr.evo st e1).evo s1 ee).wipe vs, ss, rx, hts, fun σ2 sr2 hw => ⟨by rw [hw vs htg, wipe_idem], s', O', g', w', sr2, ss, ?_⟩⟩
      cases hb : ifsW (ev n G s') ifs w' with
      | exc c w2 => rw [hb] at hev; cases hev
      | bad => rw [hb] at hev; cases hev
      | ok b w2 =>
        rw [hb] at hev
        simp only [R.bind_ok] at hev
        intro H3 O3 g3 e3 s3
        have d3 : H3 Dl = some (.lst accV) := e3.keep _ _ hd nw
        have nw3 : ¬ WA g3 Dl := WA.of_evo e3 (by rw [hd]; simp) nw
        cases b with
        | false =>
          cases hev
          show ∃ O' g' w' acc accV, _
          refine ⟨O3, g3, _, acc, accV, ee.trans e3, s3, e3.omono _ od, nw3, d3, ss.reps e3 ra, ?_⟩
          simpa using rest
        | true =>
          show tE K n G elt σ2 H3 _
          refine ⟨s', O3, g3, w2, sr2.evo ss e3, s3, ?_⟩
          cases hel : ev n G s' elt w2 with
          | exc c w4 => simp only [hel] at hev; cases hev
          | bad => simp only [hel] at hev; cases hev
          | ok ry w4 =>
            simp only [hel, R.bind_ok] at hev
            cases hf : frz ry with
            | none => rw [hf] at hev; cases hev
            | some dy =>
              rw [hf] at hev
              cases hev
              intro H4 O4 g4 e4 s4 y ryv
              obtain ⟨O5, e5, s5, r5⟩ := frz_ok s3.wf e4 s4 ryv hf
              have d4 : H4 Dl = some (.lst accV) := e5.keep _ _ d3 nw3
              have nw4 : ¬ WA g4 Dl := WA.of_evo e5 (by rw [d3]; simp) nw3
              have o4 : O5 Dl := e5.omono _ (e3.omono _ od)
              refine ⟨accV, d4, by rw [ra.length]; exact Nat.lt_of_le_of_lt hcap (by rw [sizeLine_eq]; decide), O5, g4, w3, acc ++ [dy], accV ++ [y], ((ee.trans e3).trans e5).mut hD, s5.mut d4 nw4, o4, nw4, upd_same, ?_, ?_⟩
              · exact ((s3.reps e5 (ss.reps e3 ra)).mut d4 o4).append (.cons (r5.mut d4 o4) .nil)
              · simpa using rest
  · rintro H' ⟨O', g', w', acc, accV, ee, ss, od, nw, hd, ra, rest⟩
    rw [List.drop_length] at rest
    simp only [compL, R.bind_ok, List.append_nil] at rest
    split at rest
    · exact rest _ _ _ ee ss _ ⟨Dl, rfl, od, nw, e1.back hD, accV, hd, ra⟩
    · exact rest.elim

section
variable {X : Cx} {G : Cn} {n k : Nat} {pos p : Pos} {e a b c tg : Expr}
theorem Good.blk (gd : Good X G k) {scope : Scope} (hk : scope.kind = .function) (s : Shared) (H : Hp) (C : Addr) (cl : List (Str × Addr)) (fp : List Addr) : Good (X.blk s H scope (compEnvC scope cl C X.env) fp) G k :=
  ⟨gd.calm, gd.nd, gd.N, hk, gd.room, gd.dfn, gd.blt, gd.ty, gd.cst⟩
theorem folded_of {n : Nat} {N : List Str} {sc : Scope} {env : Env} (h : chk n N sc e = true) : ∀ x, foldedSetIterable e env x = pure x := by
  cases n with
  | zero => simp [chk] at h
  | succ n => intro x; cases e <;> first | rfl | (simp [chk] at h)
theorem tgt_ok {own : List (Str × Nat)} {sc : Scope} {N : List Str} (h : chkTg N own sc tg = true) : (∀ i ∈ tgIx N tg, i ∈ own.map (·.2)) ∧ (∀ x px, (tg = .Name x px ∨ ∃ es k p, tg = .Tuple es k p ∧ .Name x px ∈ es) → ∀ i, idx N x = some i → sc.names.lookup x = some .local) ∧ ∀ es k p, tg = .Tuple es k p → ∀ e ∈ es, ∃ x px, e = .Name x px := by
  have one : ∀ x px, chkTg1 N own sc (.Name x px) = true → ∀ i, idx N x = some i → sc.names.lookup x = some .local ∧ i ∈ own.map (·.2) := fun x px h1 i hi => by
    unfold chkTg1 at h1
    dsimp only at h1
    rw [hi] at h1
    simp only [Bool.and_eq_true, decide_eq_true_eq] at h1
    exact h1
  cases tg with
  | Name x px =>
    have h1 : chkTg1 N own sc (.Name x px) = true := h
    refine ⟨fun i hi => ?_, fun y py hy i hi => ?_, fun es k p he => by cases he⟩
    · have : idx N x = some i := by simpa [tgIx] using hi
      exact (one x px h1 i this).2
    · rcases hy with hy | ⟨es, k, p, hy, _⟩
      · cases hy; exact (one x px h1 i hi).1
      · cases hy
  | Tuple es kk pp =>
    have h1 : es.all (chkTg1 N own sc) = true := h
    have h2 := List.all_eq_true.mp h1
    have nm : ∀ e ∈ es, ∃ x px, e = .Name x px := fun e he => by
      have := h2 e he
      cases e <;> first | exact ⟨_, _, rfl⟩ | (simp [chkTg1] at this)
    refine ⟨fun i hi => ?_, fun y py hy i hi => ?_, fun es' k p he => by cases he; exact nm⟩
    · simp only [tgIx, List.mem_filterMap] at hi
      obtain ⟨e, he, hi⟩ := hi
      obtain ⟨x, px, rfl⟩ := nm e he
      exact (one x px (h2 _ he) i hi).2
    · rcases hy with hy | ⟨es', k, p, hy, hm⟩
      · cases hy
      · cases hy; exact (one y py (h2 _ hm) i hi).1
  | _ => simp [chkTg, chkTg1] at h
/-- what a comprehension's rules ask -/
structure LcOk (X : Cx) (G : Cn) (n : Nat) (elt tg iter : Expr) (ifs : List Expr) (scope : Scope) : Prop where
  hi : PI X tg iter (tI X.K true n G iter)
  ok : BlkOk X.N X.env.scope scope (ownOf G.N scope)
  hg : ∀ (s : Shared) (H : Hp) (C : Addr) (cl : List (Str × Addr)) (fp : List Addr), PG (X.blk s H scope (compEnvC scope cl C X.env) fp) tg (tTg X.K G.N tg)
  ht : ∀ (s : Shared) (H : Hp) (C : Addr) (cl : List (Str × Addr)) (fp : List Addr), PTs (X.blk s H scope (compEnvC scope cl C X.env) fp) ifs (tIfs X.K n G ifs)
  he : ∀ (s : Shared) (H : Hp) (C : Addr) (cl : List (Str × Addr)) (fp : List Addr), PE (X.blk s H scope (compEnvC scope cl C X.env) fp) elt (tE X.K n G elt)
  hs : ∀ x, foldedSetIterable iter X.env x = pure x
  htg : ∀ i ∈ tgIx G.N tg, i ∈ (ownOf G.N scope).map (·.2)
theorem sv_comp {elt iter : Expr} {ifs : List Expr} {scope : Scope} (gd : Good X G k) (L : LcOk X G n elt tg iter ifs scope) : PE X (.ListComp elt [⟨tg, iter, ifs, 0⟩] scope pos) (tE X.K (n + 1) G (.ListComp elt [⟨tg, iter, ifs, 0⟩] scope pos)) :=
  (pe_lc gd.calm gd.nd L.hi L.ok L.hg L.ht L.he L.hs).imp fun σ H Q h => lc_read rfl L.htg h

/-- THE SOUNDNESS of expressions -/
theorem sound_e : ∀ (n : Nat) {X : Cx} {G : Cn} {k : Nat} {e : Expr}, Good X G k → chk n G.N X.env.scope e = true → PE X e (tE X.K n G e) ∧ (noIf e = true → PT X e (tT X.K n G e)) := by
  intro n
  induction n with
  | zero => intro X G k e gd hc; simp [chk] at hc
  | succ n ih =>
    intro X G k e gd hc
    have sub : ∀ {e : Expr}, chk n G.N X.env.scope e = true → PE X e (tE X.K n G e) := fun h => (ih gd h).1
    have subT : ∀ {e : Expr}, chk n G.N X.env.scope e = true → noIf e = true → PT X e (tT X.K n G e) := fun h => (ih gd h).2
    have dflt : ∀ {e : Expr}, PE X e (tE X.K (n + 1) G e) → (∀ whole, isTrue e X.env whole = (do let v ← whole; standAt e.pos; holding [v] (truthy v))) → PE X e (tE X.K (n + 1) G e) ∧ (noIf e = true → PT X e (tT X.K (n + 1) G e)) := fun h he => ⟨h, fun _ => st_val h he⟩
    cases e with
    | Constant cn j pos => exact dflt sv_const fun _ => rfl
    | Name x pos => exact dflt (sv_name gd hc) fun _ => rfl
    | BinOp a op b pos =>
      simp only [chk, Bool.and_eq_true] at hc
      exact dflt (sv_bin (sub hc.1) (sub hc.2)) fun _ => rfl
    | UnaryOp op a pos =>
      simp only [chk, Bool.and_eq_true] at hc
      have h1 : PE X (.UnaryOp op a pos) (tE X.K (n + 1) G (.UnaryOp op a pos)) := sv_un (sub hc.1)
      refine ⟨h1, fun _ => ?_⟩
      by_cases ho : op = .Not
      · subst ho
        exact st_not (subT hc.1 hc.2)
      · exact st_val h1 fun w => by cases op <;> first | rfl | exact absurd rfl ho
    | BoolOp op es pos =>
      simp only [chk, List.all_eq_true, Bool.and_eq_true] at hc
      exact ⟨sv_bool fun e he => sub (hc e he).1, fun _ => st_bool fun e he => subT (hc e he).1 (hc e he).2⟩
    | IfExp t a b pos =>
      simp only [chk, Bool.and_eq_true] at hc
      exact ⟨sv_if (subT hc.1.1.1 hc.1.1.2) (sub hc.1.2) (sub hc.2), fun h => by cases h⟩
    | Compare a ops bs pos =>
      simp only [chk, Bool.and_eq_true, List.all_eq_true] at hc
      match ops, bs, hc with
      | [op], [b], hc => exact ⟨sv_cmp1 gd.room (mark_of (hc.2 b (by simp))) (sub hc.1) (sub (hc.2 b (by simp))), fun _ => st_cmp1 gd.room (mark_of (hc.2 b (by simp))) (sub hc.1) (sub (hc.2 b (by simp)))⟩
      | [op, op'], [b, c], hc => exact ⟨sv_cmp2 gd.room (marks_of (hc.2 c (by simp))) (sub hc.1) (sub (hc.2 b (by simp))) (sub (hc.2 c (by simp))), fun _ => st_cmp2 gd.room (marks_of (hc.2 c (by simp))) (sub hc.1) (sub (hc.2 b (by simp))) (sub (hc.2 c (by simp)))⟩
      | [], _, _ => exact ⟨pe_bad fun _ _ => rfl, fun _ => ⟨fun pins sh σ H Q I ⟨s, O, g, w, sr, st, h⟩ => (h : False).elim⟩⟩
      | [_], [], _ => exact ⟨pe_bad fun _ _ => rfl, fun _ => ⟨fun pins sh σ H Q I ⟨s, O, g, w, sr, st, h⟩ => (h : False).elim⟩⟩
      | [_], _ :: _ :: _, _ => exact ⟨pe_bad fun _ _ => rfl, fun _ => ⟨fun pins sh σ H Q I ⟨s, O, g, w, sr, st, h⟩ => (h : False).elim⟩⟩
      | [_, _], [], _ => exact ⟨pe_bad fun _ _ => rfl, fun _ => ⟨fun pins sh σ H Q I ⟨s, O, g, w, sr, st, h⟩ => (h : False).elim⟩⟩
      | [_, _], [_], _ => exact ⟨pe_bad fun _ _ => rfl, fun _ => ⟨fun pins sh σ H Q I ⟨s, O, g, w, sr, st, h⟩ => (h : False).elim⟩⟩
      | [_, _], _ :: _ :: _ :: _, _ => exact ⟨pe_bad fun _ _ => rfl, fun _ => ⟨fun pins sh σ H Q I ⟨s, O, g, w, sr, st, h⟩ => (h : False).elim⟩⟩
      | _ :: _ :: _ :: _, _, _ => exact ⟨pe_bad fun _ _ => rfl, fun _ => ⟨fun pins sh σ H Q I ⟨s, O, g, w, sr, st, h⟩ => (h : False).elim⟩⟩
    | Tuple es x1 pos =>
      simp only [chk, List.all_eq_true] at hc
      exact dflt (sv_tup hc fun e he => sub (hc e he)) fun _ => rfl
    | List es pos =>
      simp only [chk, List.all_eq_true] at hc
      exact dflt (sv_lst hc fun e he => sub (hc e he)) fun _ => rfl
    | Subscript a b pos =>
      refine dflt ?_ fun _ => rfl
      simp only [chk, Bool.and_eq_true] at hc
      by_cases hb : ∃ lo hi st p, b = .Slice lo hi st p
      · obtain ⟨lo, hi, st, p, rfl⟩ := hb
        obtain ⟨hc1, hc2⟩ := hc
        simp only [Bool.and_eq_true] at hc2
        have o1 : ∀ e, lo = some e → PE X e (tE X.K n G e) := fun e he => by subst he; exact sub (by simpa using hc2.1)
        have o2 : ∀ e, hi = some e → PE X e (tE X.K n G e) := fun e he => by subst he; exact sub (by simpa using hc2.2)
        cases st with
        | none => exact sv_slice (sub hc1) (sv_opt o1) (sv_opt o2)
        | some st =>
          by_cases hn : lo = none ∧ hi = none ∧ isNeg1 st = true
          · obtain ⟨rfl, rfl, hn⟩ := hn
            unfold isNeg1 at hn
            split at hn
            · have := of_decide_eq_true hn
              subst this
              exact sv_rev (sub hc1)
            · cases hn
          · refine pe_bad fun s w => ?_
            show subW (ev n G s) a (.Slice lo hi (some st) p) w = .bad
            cases lo with
            | none =>
              cases hi with
              | none =>
                have : isNeg1 st = false := by
                  cases q : isNeg1 st with
                  | false => rfl
                  | true => exact absurd ⟨rfl, rfl, q⟩ hn
                simp only [subW, this]
                rfl
              | some h => rfl
            | some l => rfl
      · have hns : ∀ l h s p, b ≠ .Slice l h s p := fun l h s p e => hb ⟨l, h, s, p, e⟩
        have hc2 : chk n G.N X.env.scope b = true := by
          have := hc.2
          cases b <;> first | exact this | exact absurd rfl (hns _ _ _ _)
        exact sv_ix hns (sub hc.1) (sub hc2)
    | Call g args kws pos =>
      refine dflt ?_ fun _ => rfl
      simp only [chk, Bool.and_eq_true, List.all_eq_true, List.isEmpty_iff] at hc
      obtain ⟨⟨hk, ha⟩, hg⟩ := hc
      subst hk
      cases g with
      | Name x px =>
        have hg : glB X.env.scope x = true := hg
        cases hd : G.dfn x with
        | true => exact sv_call gd hg hd (fun e he => (ha e he).1) fun e he => sub (ha e he).1
        | false =>
          cases hl : bltTab.lookup x with
          | none =>
            refine pe_bad fun s w => ?_
            show callW G (ev n G s) (.Name x px) args [] w = .bad
            simp [callW, hd, hl]
          | some bl =>
            have red : ∀ s w, ev (n + 1) G s (.Call (.Name x px) args [] pos) w = bltW G (ev n G s) bl args w := fun s w => by
              show callW G (ev n G s) (.Name x px) args [] w = _
              simp [callW, hd, hl]
            have conv : ∀ {t : TE}, PE X (.Call (.Name x px) args [] pos) t → (∀ σ H Q, (∃ s O g w, SRep g O H σ s ∧ St3 X.K H O g w ∧ Pst X.K H O g (bltW G (ev n G s) bl args w) (CV H Q)) → t σ H Q) → PE X (.Call (.Name x px) args [] pos) (tE X.K (n + 1) G (.Call (.Name x px) args [] pos)) := fun pe f => pe.imp fun σ H Q ⟨s, O, g, w, sr, st, h⟩ => f σ H Q ⟨s, O, g, w, sr, st, by rw [red] at h; exact h⟩
            by_cases h1 : bl = .range
            · subst h1
              exact pe_bad fun s w => by rw [red]; rfl
            by_cases h2 : bl = .isinst
            · subst h2
              by_cases hargs : ∃ a t pt, args = [a, .Name t pt]
              · obtain ⟨a, t, pt, rfl⟩ := hargs
                have ht : chk n G.N X.env.scope (.Name t pt) = true := (ha _ (by simp)).1
                cases hix : idx G.N t with
                | none =>
                  have ht' : glB X.env.scope t = true := by
                    cases n with
                    | zero => simp [chk] at ht
                    | succ n' =>
                      have ht' : nameB G.N X.env.scope t = true := ht
                      unfold nameB at ht'
                      rw [hix] at ht'
                      exact ht'
                  refine conv (sv_isi gd hg hd hl ht' (fun e he => (ha e he).1) (sub (ha a (by simp)).1)) fun σ H Q ⟨s, O, g, w, sr, st, h⟩ => ⟨s, O, g, w, sr, st, ?_⟩
                  simp only [bltW, hix, Option.isNone_none, if_true] at h
                  exact h
                | some i =>
                  refine pe_no fun s w r w' hv => ?_
                  rw [red] at hv
                  simp [bltW, hix] at hv
              · refine pe_no fun s w r w' hv => ?_
                rw [red] at hv
                unfold bltW at hv
                dsimp only at hv
                split at hv
                · exact hargs ⟨_, _, _, rfl⟩
                · cases hv
            by_cases h3 : bl = .list
            · subst h3
              cases args with
              | nil => exact pe_bad fun s w => by rw [red]; rfl
              | cons e rest =>
                cases rest with
                | cons _ _ => exact pe_bad fun s w => by rw [red]; rfl
                | nil =>
                  obtain ⟨he1, he2⟩ := ha e (by simp)
                  cases hr : isRange G e with
                  | some as =>
                    obtain ⟨gn, pg, pr, rfl, g1, g2⟩ := isRange_some hr
                    have ha2 : ∀ e ∈ as, chk n G.N X.env.scope e = true := by simpa [argsOk, List.all_eq_true] using he2
                    have hgn : glB X.env.scope gn = true := by
                      cases n with
                      | zero => simp [chk] at he1
                      | succ n' =>
                        simp only [chk, Bool.and_eq_true] at he1
                        exact he1.2
                    refine conv (sv_listrg gd hg hd hl hgn g1 g2 ha2 fun e he => sub (ha2 e he)) fun σ H Q ⟨s, O, g, w, sr, st, h⟩ => ⟨s, O, g, w, sr, st, ?_⟩
                    simp only [bltW, hr] at h
                    exact h
                  | none =>
                    refine conv (sv_blt (as := []) gd hg hd hl h1 h2 (fun e he => (ha e he).1) fun e he => sub (ha e he).1) fun σ H Q ⟨s, O, g, w, sr, st, h⟩ => ⟨s, O, g, w, sr, st, ?_⟩
                    simp only [bltW, hr] at h
                    rw [evsW_one, bind_assoc]
                    exact h
            · cases args with
              | nil =>
                refine pe_bad fun s w => ?_
                rw [red]
                cases bl <;> first | rfl | exact absurd rfl h1 | exact absurd rfl h2 | exact absurd rfl h3
              | cons a as =>
                refine conv (sv_blt gd hg hd hl h1 h2 (fun e he => (ha e he).1) fun e he => sub (ha e he).1) fun σ H Q ⟨s, O, g, w, sr, st, h⟩ => ⟨s, O, g, w, sr, st, ?_⟩
                cases bl <;> first | exact h | exact absurd rfl h1 | exact absurd rfl h2 | exact absurd rfl h3
      | Attribute o m pa =>
        cases o with
        | Name x px =>
          have hg : (nameB G.N X.env.scope x && (pa.endLine == pos.line)) = true := hg
          simp only [Bool.and_eq_true] at hg
          match args, ha with
          | [a], ha =>
            have h1 := (ha a (by simp)).1
            have h2 : PE X (.Name x px) (tE X.K n G (.Name x px)) := sub (by
              cases n with
              | zero => simp [chk] at h1
              | succ n' => exact hg.1)
            exact sv_meth h2 h1 (sub h1) hg.2
          | [], ha => exact pe_bad fun s w => rfl
          | _ :: _ :: _, ha => exact pe_bad fun s w => rfl
        | _ => cases hg
      | _ => cases hg
    | ListComp elt gens scope pos =>
      refine dflt ?_ fun _ => rfl
      match gens, hc with
      | [⟨tg, iter, ifs, kk⟩], hc =>
        by_cases hk : kk = 0
        · subst hk
          have hc : (chk n G.N X.env.scope iter && argsOk (chk n G.N X.env.scope) iter && L2.blkC G.N X.env.scope scope (ownOf G.N scope) && chkTg G.N (ownOf G.N scope) (L2.relS scope X.env.scope) tg && (ifs.all fun e => chk n G.N (L2.relS scope X.env.scope) e && noIf e) && chk n G.N (L2.relS scope X.env.scope) elt) = true := hc
          simp only [Bool.and_eq_true, List.all_eq_true] at hc
          obtain ⟨⟨⟨⟨⟨c1, c2⟩, c3⟩, c4⟩, c5⟩, c6⟩ := hc
          have bo := blkOk_by c3
          have gb := fun s H C cl fp => gd.blk bo.kind s H C cl fp
          obtain ⟨t1, t2, t3⟩ := tgt_ok c4
          refine sv_comp gd ⟨?_, by rw [gd.N]; exact bo, fun s H C cl fp => ?_, fun s H C cl fp => ?_, fun s H C cl fp => ?_, folded_of c1, t1⟩
          · refine sv_iter gd c1 (sub c1) (fun as hr e he => ?_) fun gn pg as pr he => ?_
            · obtain ⟨gn, pg, pr, rfl, g1, g2⟩ := isRange_some hr
              have ha2 : ∀ e ∈ as, chk n G.N X.env.scope e = true := by simpa [argsOk, List.all_eq_true] using c2
              exact ⟨ha2 e he, sub (ha2 e he)⟩
            · subst he
              cases n with
              | zero => simp [chk] at c1
              | succ n' =>
                simp only [chk, Bool.and_eq_true] at c1
                exact c1.2
          · exact sv_tg (gb s H C cl fp).calm gd.nd gd.N (fun x px hx i hi => ⟨.inl (t2 x px hx i hi), .inr (t2 x px hx i hi)⟩) t3
          · exact sv_ifs fun e he => (ih (gb s H C cl fp) (c5 e he).1).2 (c5 e he).2
          · exact (ih (gb s H C cl fp) c6).1
        · refine pe_bad fun s w => ?_
          show compW G (ev n G) elt [⟨tg, iter, ifs, kk⟩] scope s w = .bad
          simp [compW, hk]
      | [], hc => simp [chk] at hc
      | _ :: _ :: _, hc => simp [chk] at hc
    | _ => simp [chk] at hc
end
end TM

namespace TM
open PySem PySem.Spec PyProof.Rows L2

/-! ### statements -/
/-- a frame's entry -/
structure En where
  H : Hp
  O : Os
  g : Gh
structure Frm (E : En) (s : Sl) (σ : L2.St) (H : Hp) (O : Os) (g : Gh) : Prop where
  sr : SRep g O H σ s
  ev : Evo E.H E.O E.g H O g
  fr : ∀ (i : Nat) (ds : List D) (a : Addr), s[i]? = some (some (.own ds)) → σ[i]? = some (some (.ref a)) → E.H a = none
/-- at slots s, later than H -/
def Fm (K : PySem.W.Frag) (E : En) (H : Hp) (O : Os) (g : Gh) (w : Wd) (s : Sl) (σ' : L2.St) (H' : Hp) (O' : Os) (g' : Gh) : Prop := Frm E s σ' H' O' g' ∧ St3 K H' O' g' w ∧ EvoS H O g H' O' g'
def Ps (K : PySem.W.Frag) (E : En) (H : Hp) (O : Os) (g : Gh) (m : R Out) (D : Ends) : Prop := match m with
  | .ok (.nxt s) w => ∀ σ' H' O' g', Fm K E H O g w s σ' H' O' g' → D.nx σ' H'
  | .ok (.brk s) w => ∀ σ' H' O' g', Fm K E H O g w s σ' H' O' g' → D.bk σ' H'
  | .ok (.cnt s) w => ∀ σ' H' O' g', Fm K E H O g w s σ' H' O' g' → D.ct σ' H'
  | .ok (.ret r) w => ∀ v H' O' g', Evo E.H E.O E.g H' O' g' → St3 K H' O' g' w → RepV g' O' E.H H' v r → D.rt v H'
  | .exc _ _ => False
  | .bad => False
theorem Ps.later {K : PySem.W.Frag} {E : En} {H H' : Hp} {O O' : Os} {g g' : Gh} {m : R Out} {D : Ends} (h : Ps K E H O g m D) (e : EvoS H O g H' O' g') : Ps K E H' O' g' m D := by
  cases m with
  | ok o w =>
    cases o with
    | nxt s => exact fun σ2 H2 O2 g2 ⟨f, st, e2⟩ => h σ2 H2 O2 g2 ⟨f, st, e.trans e2⟩
    | brk s => exact fun σ2 H2 O2 g2 ⟨f, st, e2⟩ => h σ2 H2 O2 g2 ⟨f, st, e.trans e2⟩
    | cnt s => exact fun σ2 H2 O2 g2 ⟨f, st, e2⟩ => h σ2 H2 O2 g2 ⟨f, st, e.trans e2⟩
    | ret r => exact h
  | exc c w => exact h
  | bad => exact h
def tX (K : PySem.W.Frag) (E : En) (f : Sl → Wd → R Out) : TS := fun D σ H => ∃ s O g w, Frm E s σ H O g ∧ St3 K H O g w ∧ Ps K E H O g (f s w) D
/-- a statement that answers by new slots alone -/
def PsN (K : PySem.W.Frag) (E : En) (H : Hp) (O : Os) (g : Gh) (m : R Sl) (Q : L2.St → Hp → Prop) : Prop := match m with
  | .ok s w => ∀ σ' H' O' g', Fm K E H O g w s σ' H' O' g' → Q σ' H'
  | .exc _ _ => False
  | .bad => False
theorem Ps.of_bind {K : PySem.W.Frag} {E : En} {H : Hp} {O : Os} {g : Gh} {m : R Sl} {D : Ends} (h : Ps K E H O g (m.bind fun s w => .ok (.nxt s) w) D) : PsN K E H O g m D.nx := by
  cases m with
  | ok s w => exact h
  | exc c w => exact h
  | bad => exact h
theorem PsN.later {K : PySem.W.Frag} {E : En} {H H' : Hp} {O O' : Os} {g g' : Gh} {m : R Sl} {Q : L2.St → Hp → Prop} (h : PsN K E H O g m Q) (e : EvoS H O g H' O' g') : PsN K E H' O' g' m Q := by
  cases m with
  | ok s w => exact fun σ2 H2 O2 g2 ⟨f, st, e2⟩ => h σ2 H2 O2 g2 ⟨f, st, e.trans e2⟩
  | exc c w => exact h
  | bad => exact h
/-- the frame at a later state of an expression -/
theorem Frm.evo {K : PySem.W.Frag} {E : En} {s : Sl} {σ : L2.St} {H H' : Hp} {O O' : Os} {g g' : Gh} {w : Wd} (f : Frm E s σ H O g) (st : St3 K H O g w) (e : Evo H O g H' O' g') : Frm E s σ H' O' g' := ⟨f.sr.evo st e, f.ev.trans e, f.fr⟩
theorem Frm.setV {E : En} {s : Sl} {σ : L2.St} {H : Hp} {O : Os} {g : Gh} {v : V} {d : D} (f : Frm E s σ H O g) (i : Nat) (r : Rep g O H v d) : Frm E (s.set i (some (.val d))) (σ.set i (some v)) H O g := by
  refine ⟨f.sr.setV i r, f.ev, fun j ds a h1 h2 => ?_⟩
  by_cases e : i = j
  · subst e
    have hl : i < s.length := by
      have := (List.getElem?_eq_some_iff.mp h1).1
      simpa using this
    rw [List.getElem?_set_self hl] at h1
    cases h1
  · rw [List.getElem?_set_ne e] at h1 h2
    exact f.fr j ds a h1 h2
/-- a new own list in a slot: new since H0 (the slots stood then) -/
theorem Frm.setO {E : En} {s : Sl} {σ : L2.St} {H0 H : Hp} {O0 O : Os} {g0 g : Gh} {a : Addr} {ds : List D} (f : Frm E s σ H O g) (f0 : Frm E s σ H0 O0 g0) (i : Nat) (hO : O a) (hw : ¬ WA g a) (h0 : H0 a = none) (l : LAt g O H a ds) : Frm E (s.set i (some (.own ds))) (σ.set i (some (.ref a))) H O g := by
  have other : ∀ (j : Nat) (es : List D), s[j]? = some (some (.own es)) → σ[j]? ≠ some (some (.ref a)) := fun j es h1 h2 => by
    obtain ⟨v, k1, b, rfl, _, _, l⟩ := f0.sr.at' j _ h1
    rw [k1] at h2
    cases h2
    exact l.al h0
  have at1 : ∀ {j : Nat} {r : RV}, (s.set i (some (.own ds)))[j]? = some (some r) → (i = j ∧ r = .own ds ∧ (σ.set i (some (.ref a)))[j]? = some (some (.ref a))) ∨ (i ≠ j ∧ s[j]? = some (some r)) := fun {j r} h => by
    by_cases e : i = j
    · subst e
      have hl : i < s.length := by
        have := (List.getElem?_eq_some_iff.mp h).1
        simpa using this
      rw [List.getElem?_set_self hl] at h
      cases h
      exact .inl ⟨rfl, rfl, by rw [List.getElem?_set_self (by rw [← f.sr.len]; exact hl)]⟩
    · rw [List.getElem?_set_ne e] at h
      exact .inr ⟨e, h⟩
  refine ⟨⟨by rw [List.length_set, List.length_set]; exact f.sr.len, fun j r h => ?_, fun j1 j2 x d1 d2 hj h1 h2 h3 h4 => ?_⟩, f.ev, fun j es x h1 h2 => ?_⟩
  · rcases at1 h with ⟨rfl, rfl, k⟩ | ⟨n, k⟩
    · exact ⟨_, k, a, rfl, hO, hw, l⟩
    · obtain ⟨v, k1, k2⟩ := f.sr.at' j r k
      exact ⟨v, by rw [List.getElem?_set_ne n]; exact k1, k2⟩
  · rcases at1 h1 with ⟨rfl, _, k⟩ | ⟨n, k⟩
    · rcases at1 h2 with ⟨rfl, _, k'⟩ | ⟨n', k'⟩
      · exact hj rfl
      · rw [k] at h3
        cases h3
        rw [List.getElem?_set_ne n'] at h4
        exact other j2 d2 k' h4
    · rcases at1 h2 with ⟨rfl, _, k'⟩ | ⟨n', k'⟩
      · rw [k'] at h4
        cases h4
        rw [List.getElem?_set_ne n] at h3
        exact other j1 d1 k h3
      · rw [List.getElem?_set_ne n] at h3
        rw [List.getElem?_set_ne n'] at h4
        exact f.sr.ap j1 j2 x d1 d2 hj k k' h3 h4
  · rcases at1 h1 with ⟨rfl, _, k⟩ | ⟨n, k⟩
    · rw [k] at h2
      cases h2
      exact f0.ev.back h0
    · rw [List.getElem?_set_ne n] at h2
      exact f.fr j es x k h2
/-- the own list of slot k is changed -/
theorem Frm.mut {K : PySem.W.Frag} {E : En} {s : Sl} {σ : L2.St} {H : Hp} {O : Os} {g : Gh} {w : Wd} {a : Addr} {k : Nat} {ds es : List D} {vs us : List V} (f : Frm E s σ H O g) (st : St3 K H O g w) (hk : s[k]? = some (some (.own ds))) (hs : σ[k]? = some (some (.ref a))) (hO : O a) (hw : ¬ WA g a) (ha : H a = some (.lst vs)) (ru : Reps g O H us es) :
    Frm E (s.set k (some (.own es))) σ (upd H a (.lst us)) O g ∧ St3 K (upd H a (.lst us)) O g w ∧ EvoS H O g (upd H a (.lst us)) O g := by
  have h0 := f.fr k ds a hk hs
  have hl : k < s.length := (List.getElem?_eq_some_iff.mp hk).1
  have at1 : ∀ {j : Nat} {r : RV}, (s.set k (some (.own es)))[j]? = some (some r) → (k = j ∧ r = .own es) ∨ (k ≠ j ∧ s[j]? = some (some r)) := fun {j r} h => by
    by_cases e : k = j
    · subst e
      rw [List.getElem?_set_self hl] at h
      cases h
      exact .inl ⟨rfl, rfl⟩
    · rw [List.getElem?_set_ne e] at h
      exact .inr ⟨e, h⟩
  refine ⟨⟨⟨by rw [List.length_set]; exact f.sr.len, fun j r h => ?_, fun j1 j2 x d1 d2 hj h1 h2 h3 h4 => ?_⟩, f.ev.mut h0, fun j es x h1 h2 => ?_⟩, st.mut ha hw, EvoS.mut hO⟩
  · rcases at1 h with ⟨rfl, rfl⟩ | ⟨n, q⟩
    · exact ⟨_, hs, a, rfl, hO, hw, us, upd_same, ru.mut ha hO⟩
    · obtain ⟨v, k1, k2⟩ := f.sr.at' j r q
      refine ⟨v, k1, ?_⟩
      cases r with
      | val d => exact Rep.mut ha hO k2
      | own xs =>
        obtain ⟨b, rfl, o, nw, vs', l1, l2⟩ := k2
        have nb : b ≠ a := fun z => by
          subst z
          exact f.sr.ap k j b ds xs n hk q hs k1
        exact ⟨b, rfl, o, nw, vs', by rw [upd_ne nb]; exact l1, l2.mut ha hO⟩
      | bor xs => exact k2
  · have q1 : ∃ d, s[j1]? = some (some (.own d)) := by
      rcases at1 h1 with ⟨rfl, _⟩ | ⟨_, q⟩
      · exact ⟨_, hk⟩
      · exact ⟨_, q⟩
    have q2 : ∃ d, s[j2]? = some (some (.own d)) := by
      rcases at1 h2 with ⟨rfl, _⟩ | ⟨_, q⟩
      · exact ⟨_, hk⟩
      · exact ⟨_, q⟩
    obtain ⟨d1', q1⟩ := q1
    obtain ⟨d2', q2⟩ := q2
    exact f.sr.ap j1 j2 x d1' d2' hj q1 q2 h3 h4
  · rcases at1 h1 with ⟨rfl, _⟩ | ⟨_, q⟩
    · rw [hs] at h2
      cases h2
      exact h0
    · exact f.fr j _ x q h2
/-- the own list of slot k is frozen -/
theorem Frm.rem {K : PySem.W.Frag} {E : En} {s : Sl} {σ : L2.St} {H : Hp} {O : Os} {g : Gh} {w : Wd} {a : Addr} {k : Nat} {ds : List D} (wE : Wf E.H E.O E.g) (f : Frm E s σ H O g) (st : St3 K H O g w) (hk : s[k]? = some (some (.own ds))) (hs : σ[k]? = some (some (.ref a))) (hw : ¬ WA g a) (l : LAt g O H a ds) :
    Frm E (s.set k (some (.val (.list ds)))) σ H (remO O a) g ∧ St3 K H (remO O a) g w ∧ EvoS H O g H (remO O a) g ∧ Rep g (remO O a) H (.ref a) (.list ds) := by
  have h0 := f.fr k ds a hk hs
  have hl : k < s.length := (List.getElem?_eq_some_iff.mp hk).1
  have at1 : ∀ {j : Nat} {r : RV}, (s.set k (some (.val (.list ds))))[j]? = some (some r) → (k = j ∧ r = .val (.list ds)) ∨ (k ≠ j ∧ s[j]? = some (some r)) := fun {j r} h => by
    by_cases e : k = j
    · subst e
      rw [List.getElem?_set_self hl] at h
      cases h
      exact .inl ⟨rfl, rfl⟩
    · rw [List.getElem?_set_ne e] at h
      exact .inr ⟨e, h⟩
  refine ⟨⟨⟨by rw [List.length_set]; exact f.sr.len, fun j r h => ?_, fun j1 j2 x d1 d2 hj h1 h2 h3 h4 => ?_⟩, f.ev.rem wE h0, fun j es x h1 h2 => ?_⟩, st.rem hw, EvoS.rem, l.rep⟩
  · rcases at1 h with ⟨rfl, rfl⟩ | ⟨n, q⟩
    · exact ⟨_, hs, l.rep⟩
    · obtain ⟨v, k1, k2⟩ := f.sr.at' j r q
      refine ⟨v, k1, ?_⟩
      cases r with
      | val d => exact Rep.anti (fun _ z => z.1) k2
      | own xs =>
        obtain ⟨b, rfl, o, nw, vs', l1, l2⟩ := k2
        have nb : b ≠ a := fun z => by
          subst z
          exact f.sr.ap k j b ds xs n hk q hs k1
        exact ⟨b, rfl, ⟨o, nb⟩, nw, vs', l1, l2.anti fun _ z => z.1⟩
      | bor xs => exact k2
  · rcases at1 h1 with ⟨_, q⟩ | ⟨_, q1⟩
    · cases q
    · rcases at1 h2 with ⟨_, q⟩ | ⟨_, q2⟩
      · cases q
      · exact f.sr.ap j1 j2 x d1 d2 hj q1 q2 h3 h4
  · rcases at1 h1 with ⟨_, q⟩ | ⟨_, q⟩
    · cases q
    · exact f.fr j es x q h2
theorem isOwn_some {G : Cn} {e : Expr} {s : Sl} {j : Nat} {ds : List D} (h : isOwn G e s = some (j, ds)) : ∃ y p, e = .Name y p ∧ idx G.N y = some j ∧ s[j]? = some (some (.own ds)) := by
  unfold isOwn at h
  split at h
  · split at h
    · split at h
      · rename_i h1 _ _ h2
        cases h
        exact ⟨_, _, rfl, h1, h2⟩
      · cases h
    · cases h
  · cases h

theorem lcok_of {X : Cx} {G : Cn} {n k : Nat} {elt tg iter : Expr} {ifs : List Expr} {scope : Scope} {kk : Int} {pos : Pos} (gd : Good X G k) (hc : chk (n + 1) G.N X.env.scope (.ListComp elt [⟨tg, iter, ifs, kk⟩] scope pos) = true) : LcOk X G n elt tg iter ifs scope := by
  have hc : (chk n G.N X.env.scope iter && argsOk (chk n G.N X.env.scope) iter && L2.blkC G.N X.env.scope scope (ownOf G.N scope) && chkTg G.N (ownOf G.N scope) (L2.relS scope X.env.scope) tg && (ifs.all fun e => chk n G.N (L2.relS scope X.env.scope) e && noIf e) && chk n G.N (L2.relS scope X.env.scope) elt) = true := hc
  simp only [Bool.and_eq_true, List.all_eq_true] at hc
  obtain ⟨⟨⟨⟨⟨c1, c2⟩, c3⟩, c4⟩, c5⟩, c6⟩ := hc
  have bo := blkOk_by c3
  have gb := fun s H C cl fp => gd.blk bo.kind s H C cl fp
  obtain ⟨t1, t2, t3⟩ := tgt_ok c4
  refine ⟨?_, by rw [gd.N]; exact bo, fun s H C cl fp => ?_, fun s H C cl fp => ?_, fun s H C cl fp => ?_, folded_of c1, t1⟩
  · refine sv_iter gd c1 (sound_e n gd c1).1 (fun as hr e he => ?_) fun gn pg as pr he => ?_
    · obtain ⟨gn, pg, pr, rfl, g1, g2⟩ := isRange_some hr
      have ha2 : ∀ e ∈ as, chk n G.N X.env.scope e = true := by simpa [argsOk, List.all_eq_true] using c2
      exact ⟨ha2 e he, (sound_e n gd (ha2 e he)).1⟩
    · subst he
      cases n with
      | zero => simp [chk] at c1
      | succ n' =>
        simp only [chk, Bool.and_eq_true] at c1
        exact c1.2
  · exact sv_tg (gb s H C cl fp).calm gd.nd gd.N (fun x px hx i hi => ⟨.inl (t2 x px hx i hi), .inr (t2 x px hx i hi)⟩) t3
  · exact sv_ifs fun e he => (sound_e n (gb s H C cl fp) (c5 e he).1).2 (c5 e he).2
  · exact (sound_e n (gb s H C cl fp) c6).1

section
variable {X : Cx} {G : Cn} {E : En} {n k : Nat} {pos p : Pos} {e a b c t : Expr}
/-- what a context of statements has more -/
structure GoodS (X : Cx) (G : Cn) (k : Nat) (E : En) : Prop extends Good X G k where
  po : PassesOwn (model X.prog X.w) X.A X.env X.xe
  wE : Wf E.H E.O E.g
  fn : ∀ x, X.fn x = true
/-! #### assignments -/
theorem frm_val (gd : GoodS X G k E) {s : Sl} {σ : L2.St} {H H1 : Hp} {O O1 : Os} {g g1 : Gh} {w w1 : Wd} {i : Nat} {x : Str} {rv : RV} {v : V} {Q : L2.St → Hp → Prop} (f : Frm E s σ H O g) (st : St3 X.K H O g w) (e1 : Evo H O g H1 O1 g1) (s1 : St3 X.K H1 O1 g1 w1) (r : RepV g1 O1 H H1 v rv) (h : PsN X.K E H O g (asgN G i x rv s w1) Q) : Q (σ.set i (some v)) H1 := by
  unfold asgN at h
  split at h
  · exact h _ _ _ _ ⟨(f.evo st e1).setV i r, s1, e1.s st.wf⟩
  · rename_i ds
    obtain ⟨a, rfl, o, nw, f0, l⟩ := r
    split at h
    · exact h _ _ _ _ ⟨(f.evo st e1).setO f i o nw f0 l, s1, e1.s st.wf⟩
    · have e2 := e1.rem st.wf f0
      exact h _ _ _ _ ⟨(f.evo st e2).setV i l.rep, s1.rem nw, e2.s st.wf⟩
  · exact h.elim
theorem sole_name {x : Str} {px : Pos} {l : Nat} : swapsWith a (some (.Name x px)) l X.env = pure false ∨ ∃ elt gs sc p, (a = .ListComp elt gs sc p ∨ a = .SetComp elt gs sc p) ∨ ∃ v, a = .DictComp elt v gs sc p := by
  cases a <;> first | exact .inl rfl | exact .inr ⟨_, _, _, _, .inl (.inl rfl)⟩ | exact .inr ⟨_, _, _, _, .inl (.inr rfl)⟩ | exact .inr ⟨_, _, _, _, .inr ⟨_, rfl⟩⟩
def stLoc (X : Cx) (x : Str) : Prop := Loc X.env.scope x
theorem ss_name {x : Str} {px : Pos} (gd : GoodS X G k E) (hx : ∀ i, idx G.N x = some i → Loc X.env.scope x) (hc : chk (n + 1) G.N X.env.scope e = true) :
    PS X (.Assign [.Name x px] e pos) (tX X.K E fun s w => (asgW G (ev (n + 1) G) (.Name x px) e s w).bind fun s w => .ok (.nxt s) w) := by
  cases hi : idx G.N x with
  | none => exact ⟨fun pins sh σ H D I ⟨s, O, g, w, f, st, h⟩ => by
      simp only [asgW, hi] at h
      exact h.elim⟩
  | some i =>
    have hN : X.N[i]? = some x := by rw [gd.N]; exact idx_get hi
    have pe := (sound_e (n + 1) gd.toGood hc).1
    have main : ∀ {D : Ends} {σ : L2.St} {H : Hp} {s : Sl} {O : Os} {g : Gh} {w : Wd}, isOwn G e s = none → Frm E s σ H O g → St3 X.K H O g w → Ps X.K E H O g ((asgW G (ev (n + 1) G) (.Name x px) e s w).bind fun s w => .ok (.nxt s) w) D → tE X.K (n + 1) G e σ H fun v H1 => D.nx (σ.set i (some v)) H1 := fun {D σ H s O g w} ho f st h => by
      have h := h.of_bind
      simp only [asgW, hi, ho] at h
      refine ⟨s, O, g, w, f.sr, st, ?_⟩
      cases hv : ev (n + 1) G s e w with
      | exc c w1 => rw [hv] at h; exact h.elim
      | bad => rw [hv] at h; exact h.elim
      | ok rv w1 =>
        rw [hv] at h
        intro H1 O1 g1 e1 s1 v r
        exact frm_val gd f st e1 s1 r h
    have plain : ∀ (hs : swapsWith e (some (.Name x px)) pos.line X.env = pure false), PS X (.Assign [.Name x px] e pos) (tX X.K E fun s w => (asgW G (ev (n + 1) G) (.Name x px) e s w).bind fun s w => .ok (.nxt s) w) := fun hs => by
      refine ⟨fun pins sh σ H D I ⟨s, O, g, w, f, st, h⟩ => ?_⟩
      cases ho : isOwn G e s with
      | none => exact (ps_set gd.nd hN (hx i hi) pe hs (.inl (gd.fn x))).run pins sh σ H D I (main ho f st h)
      | some jd =>
        obtain ⟨j, ds⟩ := jd
        obtain ⟨y, py, rfl, hj, hsj⟩ := isOwn_some ho
        have hv : nameB G.N X.env.scope y = true := hc
        unfold nameB at hv
        rw [hj] at hv
        obtain ⟨v1, v2, v3⟩ := vis_of hv
        refine (ps_set gd.nd hN (hx i hi) (pe_var (i := j) (by rw [gd.N]; exact idx_get hj) v1 v2 v3) hs (.inl (gd.fn x))).run pins sh σ H D I ?_
        have h := h.of_bind
        simp only [asgW, hi, ho] at h
        obtain ⟨v, k1, aa, rfl, o, nw, l⟩ := f.sr.at' j _ hsj
        obtain ⟨f2, s2, e2, r2⟩ := f.rem gd.wE st hsj k1 nw l
        exact ⟨_, k1, h _ _ _ _ ⟨f2.setV i r2, s2, e2⟩⟩
    by_cases hl : ∃ elt gs sc q, e = .ListComp elt gs sc q
    · obtain ⟨elt, gens, sc, q, rfl⟩ := hl
      cases hb : (X.env.blockKind == .function && X.env.kindOf x == some .local && px.line == (Expr.ListComp elt gens sc q).pos.line && !(sc.names.any fun (nn, kk) => nn == x && (kk == .local || kk == .cell))) with
      | false => exact plain (by unfold swapsWith; show pure _ = _; rw [hb])
      | true =>
        have hsw : swapsWith (.ListComp elt gens sc q) (some (.Name x px)) pos.line X.env = pure true := by unfold swapsWith; show pure _ = _; rw [hb]
        have hg1 : ∃ tg iter ifs kk, gens = [⟨tg, iter, ifs, kk⟩] := by
          match gens, hc with
          | [⟨tg, iter, ifs, kk⟩], hc => exact ⟨_, _, _, _, rfl⟩
          | [], hc => simp [chk] at hc
          | _ :: _ :: _, hc => simp [chk] at hc
        obtain ⟨tg, iter, ifs, kk, rfl⟩ := hg1
        by_cases hk : kk = 0
        · subst hk
          have hyl : X.env.scope.names.lookup x = some .local := by
            simp only [Bool.and_eq_true, beq_iff_eq] at hb
            exact hb.1.1.2
          have L := lcok_of gd.toGood hc
          refine ⟨fun pins sh σ H D I ⟨s, O, g, w, f, st, h⟩ => ?_⟩
          have ho : isOwn G (.ListComp elt [⟨tg, iter, ifs, 0⟩] sc q) s = none := rfl
          exact (ps_setLc gd.calm gd.nd hN hyl hsw L.hi L.ok L.hg L.ht L.he L.hs).run pins sh σ H D I (lc_read rfl L.htg (main ho f st h))
        · refine ⟨fun pins sh σ H D I ⟨s, O, g, w, f, st, h⟩ => ?_⟩
          exfalso
          have ho : isOwn G (.ListComp elt [⟨tg, iter, ifs, kk⟩] sc q) s = none := rfl
          have h := h.of_bind
          simp only [asgW, hi, ho] at h
          have hb : ev (n + 1) G s (.ListComp elt [⟨tg, iter, ifs, kk⟩] sc q) w = .bad := by
            show compW G (ev n G) elt [⟨tg, iter, ifs, kk⟩] sc s w = .bad
            simp [compW, hk]
          rw [hb] at h
          exact h
    · refine plain ?_
      rcases sole_name (X := X) (a := e) (x := x) (px := px) (l := pos.line) with h | ⟨elt, gs, sc, q, (rfl | rfl) | ⟨v, rfl⟩⟩
      · exact h
      · exact absurd ⟨elt, gs, sc, q, rfl⟩ hl
      · simp [chk] at hc
      · simp [chk] at hc
end
end TM

namespace TM
open PySem PySem.Spec PyProof.Rows L2

def isStar : Expr → Bool
  | .Starred _ _ => true
  | _ => false
def swNames (sc : Scope) (ts : List Expr) : List Str := ts.filterMap fun e => match e with
    | .Name id pos => if sc.names.lookup id == some .local && pos.line == (ts.head?.map (·.pos.line)).getD 0 then some id else none
    | _ => none
def swapP (sc : Scope) (ts vs : List Expr) : Option (Option (List Str)) :=
  bif (!(ts.length == 2 || ts.length == 3) || vs.length != ts.length) then some none
  else bif vs.any isStar then some none
  else bif ((swNames sc ts).length != ts.length || ((swNames sc ts).eraseDups.length != (swNames sc ts).length)) then some none
  else bif vs.all (foldedForSure 8) then some none
  else bif vs.all (constantsAlone 8) then none
  else some (some (swNames sc ts))
theorem swap_eq {ts vs : List Expr} {k k2 : Nat} {p p2 : Pos} {env : Env} {r : Option (List Str)} (hk : env.scope.kind = .function) (h : swapP env.scope ts vs = some r) : swappedStores [.Tuple ts k p] (.Tuple vs k2 p2) env = pure r := by
  unfold swapP at h
  unfold swappedStores
  have hb : (env.blockKind != .function) = false := by
    unfold Env.blockKind
    rw [hk]
    rfl
  dsimp only
  rw [hb, Bool.or_false]
  cases h1 : (!(ts.length == 2 || ts.length == 3) || vs.length != ts.length) with
  | true =>
    rw [h1] at h
    cases h
    rfl
  | false =>
    rw [h1] at h
    simp only [cond_false] at h
    refine (if_neg Bool.false_ne_true).trans ?_
    cases h2 : vs.any isStar with
    | true =>
      rw [h2] at h
      cases h
      exact if_pos h2
    | false =>
      rw [h2] at h
      simp only [cond_false] at h
      refine (if_neg (fun q => ?_)).trans ?_
      · have q' : vs.any isStar = true := q
        rw [h2] at q'
        cases q'
      cases h3 : ((swNames env.scope ts).length != ts.length || ((swNames env.scope ts).eraseDups.length != (swNames env.scope ts).length)) with
      | true =>
        rw [h3] at h
        cases h
        exact if_pos h3
      | false =>
        rw [h3] at h
        simp only [cond_false] at h
        refine (if_neg (fun q => ?_)).trans ?_
        · have q' : ((swNames env.scope ts).length != ts.length || ((swNames env.scope ts).eraseDups.length != (swNames env.scope ts).length)) = true := q
          rw [h3] at q'
          cases q'
        cases h4 : vs.all (foldedForSure 8) with
        | true => rw [h4] at h; cases h; rfl
        | false =>
          rw [h4] at h
          simp only [cond_false] at h
          cases h5 : vs.all (constantsAlone 8) with
          | true => rw [h5] at h; cases h
          | false => rw [h5] at h; cases h; rfl

/-! ### stores -/
def locB (sc : Scope) (x : Str) : Bool := decide (sc.names.lookup x = some .local) || decide (sc.names.lookup x = some .cell)
def notSl : Expr → Bool
  | .Slice _ _ _ _ => false
  | _ => true
def chkSt (n : Nat) (N : List Str) (sc : Scope) (t : Expr) : Bool := match t with
  | .Name x _ => locB sc x
  | .Subscript (.Name x _) b _ => nameB N sc x && chk n N sc b && notSl b
  | _ => false
theorem loc_of {sc : Scope} {x : Str} (h : locB sc x = true) : Loc sc x := by
  unfold locB at h
  simp only [Bool.or_eq_true, decide_eq_true_eq] at h
  exact h
section
variable {X : Cx} {G : Cn} {E : En} {n k : Nat} {pos p : Pos} {e a b c t : Expr}
def tSt (K : PySem.W.Frag) (E : En) (n : Nat) (G : Cn) (t : Expr) : TG := fun v σ H Q => ∃ s O g w d, Frm E s σ H O g ∧ St3 K H O g w ∧ Rep g O H v d ∧ PsN K E H O g (stT G (ev n G) t d s w) Q
def tSts (K : PySem.W.Frag) (E : En) (n : Nat) (G : Cn) (ts : List Expr) : TGs := fun vs σ H Q => ∃ s O g w ds, Frm E s σ H O g ∧ St3 K H O g w ∧ Reps g O H vs ds ∧ PsN K E H O g (stTs G (ev n G) ts ds s w) Q
theorem sg_st (gd : GoodS X G k E) (hc : chkSt n G.N X.env.scope t = true) : PG X t (tSt X.K E n G t) := by
  unfold chkSt at hc
  split at hc
  · rename_i x px
    cases hi : idx G.N x with
    | none => exact ⟨fun pins sh σ H v u Q I r ⟨s, O, g, w, d, f, st, rv, h⟩ => by
        simp only [stT, hi] at h
        exact h.elim⟩
    | some i =>
      refine (pg_name (i := i) gd.nd (by rw [gd.N]; exact idx_get hi) (loc_of hc) (.inl (gd.fn x))).imp fun v σ H Q ⟨s, O, g, w, d, f, st, rv, h⟩ => ?_
      simp only [stT, hi] at h
      exact h _ _ _ _ ⟨f.setV i rv, st, EvoS.refl⟩
  · rename_i x px b pb
    simp only [Bool.and_eq_true] at hc
    obtain ⟨⟨c1, c2⟩, c3⟩ := hc
    have hst : ∀ (d : D) (s : Sl) (w : Wd), stT G (ev n G) (.Subscript (.Name x px) b pb) d s w = (match idx G.N x with
      | some k => (match s[k]? with
        | some (some (.own ds)) => (ev n G s b w).bind fun y w => (match y with
          | .val (.int i) => (match L2.ixN ds.length i with
            | some j => .ok (s.set k (some (.own (ds.set j d)))) w
            | none => .bad)
          | _ => .bad)
        | _ => .bad)
      | none => .bad) := fun d s w => by
      cases b <;> first | rfl | cases c3
    cases hi : idx G.N x with
    | none => exact ⟨fun pins sh σ H v u Q I r ⟨s, O, g, w, d, f, st, rv, h⟩ => by
        rw [hst, hi] at h
        exact h.elim⟩
    | some kx =>
      unfold nameB at c1
      rw [hi] at c1
      obtain ⟨v1, v2, v3⟩ := vis_of c1
      have ha : ∀ v, assign (.Subscript (.Name x px) b pb) X.env v = (do
          let ov ← holding [v] (eval (.Name x px) X.env)
          let iv ← holding [v, ov] (eval b X.env)
          standAt pb
          holding [v, ov, iv] (setItem ov iv v)
          release [v, ov, iv] []) := fun v => by
        cases b <;> first | rfl | cases c3
      refine (pg_sub (pe_var (i := kx) (by rw [gd.N]; exact idx_get hi) v1 v2 v3) (sound_e n gd.toGood c2).1 set_list ha).imp fun v σ H Q ⟨s, O, g, w, d, f, st, rv, h⟩ => ?_
      rw [hst, hi] at h
      dsimp only at h
      cases hs : s[kx]? with
      | none => rw [hs] at h; exact h.elim
      | some o =>
        cases o with
        | none => rw [hs] at h; exact h.elim
        | some rv0 =>
          cases rv0 with
          | val d => rw [hs] at h; exact h.elim
          | bor ds => rw [hs] at h; exact h.elim
          | own ds =>
            rw [hs] at h
            dsimp only at h
            obtain ⟨v0, k1, aa, rfl, o, nw, l⟩ := f.sr.at' kx _ hs
            refine ⟨_, k1, s, O, g, w, f.sr, st, ?_⟩
            cases hv : ev n G s b w with
            | exc c w1 => rw [hv] at h; exact h.elim
            | bad => rw [hv] at h; exact h.elim
            | ok ry w1 =>
              rw [hv] at h
              simp only [R.bind_ok] at h
              intro H1 O1 g1 e1 s1 u ru
              split at h
              · rename_i i
                split at h
                · rename_i j hj
                  cases ru
                  have f1 := f.evo st e1
                  obtain ⟨vs, l1, l2⟩ := st.lat e1 nw l
                  have nw1 : ¬ WA g1 aa := WA.of_evo e1 l.al nw
                  obtain ⟨f2, s2, e2⟩ := f1.mut (w := w1) s1 hs k1 (e1.omono _ o) nw1 l1 (Reps.set (st.rep e1 rv) j l2)
                  refine ⟨aa, vs, i, j, rfl, rfl, l1, by rw [l2.length]; exact hj, ?_⟩
                  exact h _ _ _ _ ⟨f2, s2, (e1.s st.wf).trans e2⟩
                · exact h.elim
              · exact h.elim
  · cases hc
theorem sgs_st (gd : GoodS X G k E) : ∀ {ts : List Expr}, (∀ t ∈ ts, chkSt n G.N X.env.scope t = true) → PGs X ts (tSts X.K E n G ts)
  | [], _ => ⟨fun pins sh σ H vs us Q I r ⟨s, O, g, w, ds, f, st, rs, h⟩ => by
      cases rs with
      | nil => exact pgs_nil.run pins sh σ H [] us Q I r ⟨rfl, h _ _ _ _ ⟨f, st, EvoS.refl⟩⟩
      | cons a b => exact h.elim⟩
  | t :: ts, hc => by
    have h1 := sg_st (X := X) (G := G) (E := E) (n := n) gd (hc t (by simp))
    have h2 := sgs_st gd (ts := ts) fun t ht => hc t (List.mem_cons_of_mem _ ht)
    have hs : (assignEach (t :: ts) X.env).map (·.2) = assign t X.env :: (assignEach ts X.env).map (·.2) := by
      have := hc t (by simp)
      cases t <;> first | rfl | (simp [chkSt] at this)
    refine ⟨fun pins sh σ H vs us Q I r ⟨s, O, g, w, ds, f, st, rs, h⟩ => ?_⟩
    refine (pgs_cons h1 h2 hs).run pins sh σ H vs us Q I r ?_
    cases rs with
    | nil => exact h.elim
    | @cons v vr d dr ra rb =>
      have h : PsN X.K E H O g ((stT G (ev n G) t d s w).bind fun s w => stTs G (ev n G) ts dr s w) Q := h
      refine ⟨v, vr, rfl, s, O, g, w, d, f, st, ra, ?_⟩
      cases hv : stT G (ev n G) t d s w with
      | exc c w1 => rw [hv] at h; exact h
      | bad => rw [hv] at h; exact h
      | ok s1 w1 =>
        rw [hv] at h
        exact fun σ' H' O' g' ⟨f', st', e'⟩ => ⟨s1, O', g', w1, dr, f', st', rb.evoS e' st.wf, h.later e'⟩
theorem ae_st : ∀ {ts : List Expr} {sc : Scope} {N : List Str} {env : Env}, (∀ t ∈ ts, chkSt n N sc t = true) → (assignEach ts env).length = ts.length ∧ (assignEach ts env).findIdx? (·.1) = none
  | [], _, _, _, _ => ⟨rfl, rfl⟩
  | t :: ts, sc, N, env, hc => by
    obtain ⟨h1, h2⟩ := ae_st (ts := ts) (sc := sc) (N := N) (env := env) fun t ht => hc t (List.mem_cons_of_mem _ ht)
    have hs : assignEach (t :: ts) env = (false, assign t env) :: assignEach ts env := by
      have := hc t (by simp)
      cases t <;> first | rfl | (simp [chkSt] at this)
    rw [hs]
    refine ⟨by simp [h1], ?_⟩
    rw [List.findIdx?_cons]
    simp [h2]
theorem stTs_len {f : Sl → EvF} : ∀ {ts : List Expr} {ds : List D} {s s' : Sl} {w w' : Wd}, stTs G f ts ds s w = .ok s' w' → ds.length = ts.length
  | [], ds, s, s', w, w', h => by
    cases ds with
    | nil => rfl
    | cons _ _ => cases h
  | t :: ts, ds, s, s', w, w', h => by
    cases ds with
    | nil => cases h
    | cons d ds =>
      have h : ((stT G f t d s w).bind fun s w => stTs G f ts ds s w) = .ok s' w' := h
      cases hv : stT G f t d s w with
      | exc c w1 => rw [hv] at h; cases h
      | bad => rw [hv] at h; cases h
      | ok s1 w1 =>
        rw [hv] at h
        simp [stTs_len h]
/-- an assignment to a tuple of targets, by the tuple -/
theorem ss_tup {ts : List Expr} {kt : Nat} {pt : Pos} (gd : GoodS X G k E) (hc : ∀ t ∈ ts, chkSt n G.N X.env.scope t = true) (he : PE X e (tE X.K n G e)) (hs : swapsWithSole [.Tuple ts kt pt] e pos.line X.env = pure false) (hw : swappedStores [.Tuple ts kt pt] e X.env = pure none) :
    PS X (.Assign [.Tuple ts kt pt] e pos) (tX X.K E fun s w => (asgW G (ev n G) (.Tuple ts kt pt) e s w).bind fun s w => .ok (.nxt s) w) := by
  obtain ⟨a1, a2⟩ := ae_st (env := X.env) hc
  refine ⟨fun pins sh σ H D I ⟨s, O, g, w, f, st, h⟩ => ?_⟩
  refine (ps_asg he (pg_tup gd.calm (sgs_st gd hc) a1 a2) hs hw rfl).run pins sh σ H D I ?_
  have h := h.of_bind
  simp only [asgW] at h
  refine ⟨s, O, g, w, f.sr, st, ?_⟩
  cases hv : ev n G s e w with
  | exc c w1 => rw [hv] at h; exact h.elim
  | bad => rw [hv] at h; exact h.elim
  | ok rv w1 =>
    rw [hv] at h
    simp only [R.bind_ok] at h
    intro H1 O1 g1 e1 s1 v r
    split at h
    · rename_i ds
      have r' : Rep g1 O1 H1 v (.tuple ds) := r
      cases r' with
      | tup h1 r1 =>
        have hl : ds.length = ts.length := by
          cases hz : stTs G (ev n G) ts ds s w1 with
          | ok s2 w2 => exact stTs_len hz
          | exc c w2 => rw [hz] at h; exact h.elim
          | bad => rw [hz] at h; exact h.elim
        exact ⟨_, _, rfl, SqT.of h1, by rw [r1.length]; exact hl, s, O1, g1, w1, ds, f.evo st e1, s1, r1, h.later (e1.s st.wf)⟩
    · exact h.elim
/-- a, b = x, y -/
theorem ss_par {x y : Str} {px py pt p2 : Pos} {kt k2 : Nat} {i j : Nat} {N : List Str} {sc : Scope} {m : Nat} (gd : GoodS X G k E) (hi : idx G.N x = some i) (hj : idx G.N y = some j) (hij : i ≠ j) (hx : X.env.scope.names.lookup x = some .local) (hy : X.env.scope.names.lookup y = some .local)
    (hs : ∀ e ∈ [a, b], chk m N sc e = true) (ih : ∀ e ∈ [a, b], PE X e (tE X.K n G e)) (hw : swappedStores [.Tuple [.Name x px, .Name y py] kt pt] (.Tuple [a, b] k2 p2) X.env = pure (some [x, y])) :
    PS X (.Assign [.Tuple [.Name x px, .Name y py] kt pt] (.Tuple [a, b] k2 p2) pos) (tX X.K E fun s w => (asgW G (ev (n + 1) G) (.Tuple [.Name x px, .Name y py] kt pt) (.Tuple [a, b] k2 p2) s w).bind fun s w => .ok (.nxt s) w) := by
  refine ⟨fun pins sh σ H D I ⟨s, O, g, w, f, st, h⟩ => ?_⟩
  refine (ps_par (i := i) (j := j) gd.calm gd.nd (by rw [gd.N]; exact idx_get hi) (by rw [gd.N]; exact idx_get hj) hij hx hy (sv_args hs ih) hw rfl).run pins sh σ H D I ?_
  have h := h.of_bind
  have h : PsN X.K E H O g ((tupW (ev n G s) [a, b] w).bind fun v w => (match v with
    | .val (.tuple ds) => stTs G (ev (n + 1) G) [.Name x px, .Name y py] ds s w
    | _ => .bad)) D.nx := h
  unfold tupW at h
  refine ⟨s, O, g, w, f.sr, st, ?_⟩
  cases hv : evsW (ev n G s) [a, b] w with
  | exc c w1 => rw [hv] at h; exact h.elim
  | bad => rw [hv] at h; exact h.elim
  | ok rs w1 =>
    rw [hv] at h
    simp only [R.bind_ok] at h
    intro H1 O1 g1 e1 s1 vs ra
    cases hd : datS rs with
    | none => rw [hd] at h; exact h.elim
    | some ds =>
      rw [hd] at h
      dsimp only at h
      have rr := repAs_dat ra hd
      by_cases hl : ds.length ≤ cap
      · rw [if_pos hl] at h
        simp only [R.bind_ok] at h
        have hlen : ds.length = 2 := by
          cases hz : stTs G (ev (n + 1) G) [.Name x px, .Name y py] ds s w1 with
          | ok s2 w2 => exact stTs_len hz
          | exc c w2 => rw [hz] at h; exact h.elim
          | bad => rw [hz] at h; exact h.elim
        match ds, hlen, rr, h with
        | [d1, d2], _, rr, h =>
          cases rr with
          | cons r1 rt =>
            cases rt with
            | cons r2 rt =>
              cases rt
              simp only [stTs, stT, hi, hj, R.bind_ok] at h
              exact ⟨_, _, rfl, h _ _ _ _ ⟨((f.evo st e1).setV i r1).setV j r2, s1, e1.s st.wf⟩⟩
      · rw [if_neg hl] at h
        exact h.elim
theorem ss_sub {o b : Expr} {pb : Pos} (gd : GoodS X G k E) (hc : chkSt n G.N X.env.scope (.Subscript o b pb) = true) (he : PE X e (tE X.K n G e)) (hs : swapsWithSole [.Subscript o b pb] e pos.line X.env = pure false) :
    PS X (.Assign [.Subscript o b pb] e pos) (tX X.K E fun s w => (asgW G (ev n G) (.Subscript o b pb) e s w).bind fun s w => .ok (.nxt s) w) := by
  refine ⟨fun pins sh σ H D I ⟨s, O, g, w, f, st, h⟩ => ?_⟩
  refine (ps_asg he (sg_st gd hc) hs rfl rfl).run pins sh σ H D I ?_
  have h := h.of_bind
  simp only [asgW] at h
  refine ⟨s, O, g, w, f.sr, st, ?_⟩
  cases hv : ev n G s e w with
  | exc c w1 => rw [hv] at h; exact h.elim
  | bad => rw [hv] at h; exact h.elim
  | ok rv w1 =>
    rw [hv] at h
    simp only [R.bind_ok] at h
    intro H1 O1 g1 e1 s1 v r
    cases hf : frz rv with
    | none => rw [hf] at h; exact h.elim
    | some d =>
      rw [hf] at h
      obtain ⟨O2, e2, s2, r2⟩ := frz_ok st.wf e1 s1 r hf
      exact ⟨s, O2, g1, w1, d, f.evo st e2, s2, r2, h.later (e2.s st.wf)⟩

/-! #### a op= e -/
def pW (X : Cx) (op : Operator) : TIp := fun x y H Q => ∀ (pins : List (Addr × Obj)) (s : Shared) (σ : L2.St) (v u : Value), Inv X pins σ H s → RelV x v → RelV y u → wpAny (model X.prog X.w) X.A (inplaceOp op v u) (EP X pins σ Q) X.xe s
theorem pipW {op : Operator} : PIp X op (pW X op) := fun pins s σ H x y v u Q I r1 r2 h => h pins s σ v u I r1 r2
theorem OpR.ip {op : Operator} {r : R2} (h : OpR X (inplaceOp op) r) {x y : V} {H : Hp} {Q : VK} (q : r x y H Q) : pW X op x y H Q := fun pins s σ v u I r1 r2 => h pins s σ H x y v u Q I r1 r2 q
theorem ss_aug {x : Str} {px : Pos} {op : Operator} (gd : GoodS X G k E) (hx : locB X.env.scope x = true) (he : PE X e (tE X.K n G e)) :
    PS X (.AugAssign (.Name x px) op e pos) (tX X.K E fun s w => (augW G (ev n G) (.Name x px) op e s w).bind fun s w => .ok (.nxt s) w) := by
  refine ⟨fun pins sh σ H D I ⟨s, O, g, w, f, st, h⟩ => ?_⟩
  have h := h.of_bind
  cases hi : idx G.N x with
  | none =>
    simp only [augW, hi] at h
    exact h.elim
  | some i =>
    simp only [augW, hi] at h
    refine (ps_aug (i := i) gd.nd (by rw [gd.N]; exact idx_get hi) (loc_of hx) he pipW (.inl (gd.fn x))).run pins sh σ H D I ?_
    cases hs : s[i]? with
    | none => rw [hs] at h; exact h.elim
    | some o =>
      cases o with
      | none => rw [hs] at h; exact h.elim
      | some r0 =>
        rw [hs] at h
        dsimp only at h
        obtain ⟨v0, k1, k2⟩ := f.sr.at' i _ hs
        refine ⟨v0, k1, s, O, g, w, f.sr, st, ?_⟩
        cases hv : ev n G s e w with
        | exc c w1 => rw [hv] at h; exact h.elim
        | bad => rw [hv] at h; exact h.elim
        | ok ry w1 =>
          rw [hv] at h
          simp only [R.bind_ok] at h
          intro H1 O1 g1 e1 s1 u ru
          have f1 := f.evo st e1
          cases ho : augop op r0 ry with
          | none => rw [ho] at h; exact h.elim
          | some z =>
            rw [ho] at h
            dsimp only at h
            unfold augop at ho
            split at ho
            · rename_i xs
              split at ho
              · rename_i ys ey
                split at ho
                · rename_i hl
                  cases ho
                  obtain ⟨aa, rfl, o, nw, l⟩ := k2
                  obtain ⟨vs, l1, l2⟩ := st.lat e1 nw l
                  obtain ⟨bb, rfl, us, hb, rb⟩ := ru.b.lst ey
                  have nw1 : ¬ WA g1 aa := WA.of_evo e1 l.al nw
                  obtain ⟨f2, s2, e2⟩ := f1.mut (w := w1) s1 hs k1 (e1.omono _ o) nw1 l1 (l2.append rb)
                  refine OpR.ip iop_ext ⟨aa, bb, vs, us, rfl, rfl, l1, hb, by rw [l2.length, rb.length]; exact Nat.le_trans hl cap_line, ?_⟩
                  have hσ : σ.set i (some (.ref aa)) = σ := by
                    obtain ⟨hlt, e⟩ := List.getElem?_eq_some_iff.mp k1
                    rw [← e, List.set_getElem_self]
                  show D.nx (σ.set i (some (.ref aa))) _
                  rw [hσ]
                  exact h _ _ _ _ ⟨f2, s2, (e1.s st.wf).trans e2⟩
                · cases ho
              · cases ho
            · split at ho
              · cases ho; cases k2; cases ru
                exact OpR.ip iop_add ⟨_, _, rfl, rfl, h _ _ _ _ ⟨f1.setV i (.int _), s1, e1.s st.wf⟩⟩
              · cases ho
            · split at ho
              · split at ho
                · rename_i hm
                  cases ho; cases k2; cases ru
                  exact OpR.ip iop_mul ⟨_, _, rfl, rfl, mulOk_c hm, h _ _ _ _ ⟨f1.setV i (.int _), s1, e1.s st.wf⟩⟩
                · cases ho
              · cases ho
            · cases ho
end
end TM

namespace TM
open PySem PySem.Spec PyProof.Rows L2

section
variable {X : Cx} {G : Cn} {E : En} {n k : Nat} {pos p : Pos} {e a b c t : Expr}
/-! ### blocks -/
theorem sx_seq {f : Stmt → Sl → Wd → R Out} : ∀ {body : List Stmt}, (∀ st ∈ body, PS X st (tX X.K E (f st))) → PSs X body (tX X.K E (execs f body))
  | [], _ => pss_nil.imp fun D σ H ⟨s, O, g, w, fr, st, h⟩ => h _ _ _ _ ⟨fr, st, EvoS.refl⟩
  | st0 :: r, ih => by
    refine (pss_cons (ih st0 (by simp)) (sx_seq (body := r) fun st hs => ih st (List.mem_cons_of_mem _ hs))).imp fun D σ H ⟨s, O, g, w, fr, st, h⟩ => ?_
    refine ⟨s, O, g, w, fr, st, ?_⟩
    have h : Ps X.K E H O g ((f st0 s w).bind fun o w => match o with
      | .nxt s => execs f r s w
      | o => .ok o w) D := h
    cases hv : f st0 s w with
    | exc c w1 => rw [hv] at h; exact h
    | bad => rw [hv] at h; exact h
    | ok o w1 =>
      rw [hv] at h
      cases o with
      | nxt s1 => exact fun σ' H' O' g' ⟨f', st', e'⟩ => ⟨s1, O', g', w1, f', st', Ps.later h e'⟩
      | brk s1 => exact h
      | cnt s1 => exact h
      | ret v => exact h
/-! ### if -/
theorem ss_if {f : Stmt → Sl → Wd → R Out} {x y : List Stmt} (ht : PT X c (tT X.K n G c)) (ha : PSs X x (tX X.K E (execs f x))) (hb : PSs X y (tX X.K E (execs f y))) :
    PS X (.If c x y pos) (tX X.K E fun s w => (tstW (ev n G s) c w).bind fun b w => (match b with
      | true => execs f x s w
      | false => execs f y s w)) := by
  refine (ps_if ht ha hb).imp fun D σ H ⟨s, O, g, w, fr, st, h⟩ => ?_
  refine ⟨s, O, g, w, fr.sr, st, ?_⟩
  dsimp only at h
  cases hv : tstW (ev n G s) c w with
  | exc c w1 => rw [hv] at h; exact h
  | bad => rw [hv] at h; exact h
  | ok b w1 =>
    rw [hv] at h
    intro H1 O1 g1 e1 s1
    have h := Ps.later h (e1.s st.wf)
    cases b with
    | true =>
      show tX X.K E (execs f x) D σ H1
      exact ⟨s, O1, g1, w1, fr.evo st e1, s1, h⟩
    | false =>
      show tX X.K E (execs f y) D σ H1
      exact ⟨s, O1, g1, w1, fr.evo st e1, s1, h⟩
/-! ### while -/
theorem ss_while {f : Stmt → Sl → Wd → R Out} {x : List Stmt} {N0 : Nat} (gd : GoodS X G k E) (ht : PT X c (tT X.K n G c)) (ha : PSs X x (tX X.K E (execs f x))) :
    PS X (.While c x [] pos) (tX X.K E fun s w => whlL (fun s w => tstW (ev n G s) c w) (fun s w => execs f x s w) N0 s w) := by
  refine (ps_while gd.po ht ha).imp fun D σ H ⟨s, O, g, w, fr, st, h⟩ => ?_
  refine ⟨fun m σ' H' => ∃ s' O' g' w', Frm E s' σ' H' O' g' ∧ St3 X.K H' O' g' w' ∧ EvoS H O g H' O' g' ∧ Ps X.K E H O g (whlL (fun s w => tstW (ev n G s) c w) (fun s w => execs f x s w) m s' w') D, ⟨N0, s, O, g, w, fr, st, EvoS.refl, h⟩, ?_⟩
  rintro m σ' H' ⟨s', O', g', w', fr', st', e', h'⟩
  cases m with
  | zero => exact (h' : False).elim
  | succ m =>
    refine ⟨s', O', g', w', fr'.sr, st', ?_⟩
    have h' : Ps X.K E H O g ((tstW (ev n G s') c w').bind fun b w => match b with
      | false => .ok (.nxt s') w
      | true => (execs f x s' w).bind fun o w => match o with
        | .nxt s => whlL (fun s w => tstW (ev n G s) c w) (fun s w => execs f x s w) m s w
        | .cnt s => whlL (fun s w => tstW (ev n G s) c w) (fun s w => execs f x s w) m s w
        | .brk s => .ok (.nxt s) w
        | .ret v => .ok (.ret v) w) D := h'
    cases hv : tstW (ev n G s') c w' with
    | exc c w1 => rw [hv] at h'; exact h'
    | bad => rw [hv] at h'; exact h'
    | ok b w1 =>
      rw [hv] at h'
      simp only [R.bind_ok] at h'
      intro H1 O1 g1 e1 s1
      have e2 := e'.trans (e1.s st'.wf)
      cases b with
      | false =>
        show D.nx σ' H1
        exact h' _ _ _ _ ⟨fr'.evo st' e1, s1, e2⟩
      | true =>
        show ∃ N : L2.St → Hp → Prop, _
        refine ⟨fun σ2 H2 => ∃ s' O' g' w', Frm E s' σ2 H2 O' g' ∧ St3 X.K H2 O' g' w' ∧ EvoS H O g H2 O' g' ∧ Ps X.K E H O g (whlL (fun s w => tstW (ev n G s) c w) (fun s w => execs f x s w) m s' w') D, fun σ2 H2 q => ⟨m, Nat.lt_succ_self m, q⟩, s', O1, g1, w1, fr'.evo st' e1, s1, ?_⟩
        dsimp only at h'
        cases hx : execs f x s' w1 with
        | exc c w2 => rw [hx] at h'; exact h'
        | bad => rw [hx] at h'; exact h'
        | ok o w2 =>
          rw [hx] at h'
          simp only [R.bind_ok] at h'
          cases o with
          | nxt s2 => exact fun σ2 H2 O2 g2 ⟨f2, st2, e3⟩ => ⟨s2, O2, g2, w2, f2, st2, e2.trans e3, h'⟩
          | cnt s2 => exact fun σ2 H2 O2 g2 ⟨f2, st2, e3⟩ => ⟨s2, O2, g2, w2, f2, st2, e2.trans e3, h'⟩
          | brk s2 => exact fun σ2 H2 O2 g2 ⟨f2, st2, e3⟩ => h' _ _ _ _ ⟨f2, st2, e2.trans e3⟩
          | ret v => exact h'
/-! ### for -/
theorem tgt_own {N : List Str} {e : Expr} {d : D} {s s' : Sl} {i : Nat} {ds : List D} (h : tgt N e d s = some s') (hi : s'[i]? = some (some (.own ds))) : i ∉ tgIx N e ∧ s[i]? = some (some (.own ds)) := by
  have one : ∀ {j : Nat} {d : D} {s : Sl}, (s.set j (some (.val d)))[i]? = some (some (.own ds)) → i ≠ j ∧ s[i]? = some (some (.own ds)) := fun {j d s} h => by
    by_cases q : j = i
    · subst q
      have hl : j < s.length := by
        have := (List.getElem?_eq_some_iff.mp h).1
        simpa using this
      rw [List.getElem?_set_self hl] at h
      cases h
    · rw [List.getElem?_set_ne q] at h
      exact ⟨fun z => q z.symm, h⟩
  have all : ∀ {es : List Expr} {xs : List D} {s s' : Sl}, tgtS N es xs s = some s' → s'[i]? = some (some (.own ds)) → i ∉ (es.filterMap fun e => match e with | .Name x _ => idx N x | _ => none) ∧ s[i]? = some (some (.own ds)) := fun {es} => by
    induction es with
    | nil =>
      intro xs s s' h hi
      unfold tgtS at h
      split at h
      · cases h; exact ⟨by simp, hi⟩
      · cases h
    | cons e r ih =>
      intro xs s s' h hi
      unfold tgtS at h
      split at h
      · split at h
        · rename_i j hj
          obtain ⟨h1, h2⟩ := ih h hi
          obtain ⟨h3, h4⟩ := one h2
          exact ⟨by simp only [List.filterMap_cons, hj]; exact fun z => (List.mem_cons.mp z).elim h3 h1, h4⟩
        · cases h
      · cases h
  unfold tgt at h
  split at h
  · split at h
    · rename_i j hj
      cases h
      obtain ⟨h1, h2⟩ := one hi
      exact ⟨by simp [tgIx, hj, h1], h2⟩
    · cases h
  · split at h
    · exact all h hi
    · cases h
  · cases h
def tTgF (K : PySem.W.Frag) (E : En) (N : List Str) (e : Expr) : TG := fun v σ H Q => ∃ s O g w d s', Frm E s σ H O g ∧ St3 K H O g w ∧ Rep g O H v d ∧ tgt N e d s = some s' ∧ ∀ σ', Frm E s' σ' H O g → Q σ' H
theorem sg_for (h : PG X t (tTg X.K G.N t)) : PG X t (tTgF X.K E G.N t) := by
  refine h.imp fun v σ H Q ⟨s, O, g, w, d, s', fr, st, r, ht, q⟩ => ⟨s, O, g, w, d, s', fr.sr, st, r, ht, fun σ' sr' hw => q σ' ⟨sr', fr.ev, fun i ds aa h1 h2 => ?_⟩⟩
  obtain ⟨k1, k2⟩ := tgt_own ht h1
  have e := hw (tgIx G.N t) fun _ z => z
  have e2 : σ'[i]? = σ[i]? := by rw [← wipe_out (σ := σ') k1, e, wipe_out k1]
  rw [e2] at h2
  exact fr.fr i ds aa k2 h2
theorem frzN_ok {s : Sl} {σ : L2.St} {H : Hp} {O : Os} {g : Gh} {w : Wd} (gd : GoodS X G k E) (f : Frm E s σ H O g) (st : St3 X.K H O g w) : ∃ O', Frm E (frzN G e s) σ H O' g ∧ St3 X.K H O' g w ∧ EvoS H O g H O' g := by
  have dflt : frzN G e s = s → ∃ O', Frm E (frzN G e s) σ H O' g ∧ St3 X.K H O' g w ∧ EvoS H O g H O' g := fun h => by rw [h]; exact ⟨O, f, st, EvoS.refl⟩
  cases e with
  | Name x px =>
    cases hi : idx G.N x with
    | none => exact dflt (by simp [frzN, hi])
    | some i =>
      cases hs : s[i]? with
      | none => exact dflt (by simp [frzN, hi, hs])
      | some o =>
        cases o with
        | none => exact dflt (by simp [frzN, hi, hs])
        | some r =>
          cases r with
          | val d => exact dflt (by simp [frzN, hi, hs])
          | bor d => exact dflt (by simp [frzN, hi, hs])
          | own ds =>
            have : frzN G (.Name x px) s = s.set i (some (.val (.list ds))) := by simp [frzN, hi, hs]
            rw [this]
            obtain ⟨v, k1, aa, rfl, o, nw, l⟩ := f.sr.at' i _ hs
            obtain ⟨f2, s2, e2, _⟩ := f.rem gd.wE st hs k1 nw l
            exact ⟨_, f2, s2, e2⟩
  | _ => exact dflt rfl
theorem ss_for {f : Stmt → Sl → Wd → R Out} {x : List Stmt} {tg iter : Expr} (gd : GoodS X G k E) (hi : PI X tg iter (tI X.K false n G iter)) (hg : PG X tg (tTg X.K G.N tg)) (hb : PSs X x (tX X.K E (execs f x))) (hs : ∀ y, foldedSetIterable iter X.env y = pure y) :
    PS X (.For tg iter x [] pos) (tX X.K E fun s w => (iterW false G (ev n G (frzN G iter s)) iter w).bind fun ds w => forL (fun d s w => match tgt G.N tg d s with
        | some s => execs f x s w
        | none => .bad) ds (frzN G iter s) w) := by
  refine (ps_for gd.po gd.calm hi (sg_for (E := E) hg) hb hs).imp fun D σ H ⟨s, O, g, w, fr, st, h⟩ => ?_
  obtain ⟨O0, fr0, st0, e0⟩ := frzN_ok (e := iter) gd fr st
  refine ⟨frzN G iter s, O0, g, w, fr0.sr, st0, ?_⟩
  dsimp only at h
  cases hv : iterW false G (ev n G (frzN G iter s)) iter w with
  | exc c w1 => rw [hv] at h; exact h
  | bad => rw [hv] at h; exact h
  | ok ds w1 =>
    rw [hv] at h
    simp only [R.bind_ok] at h
    intro H1 O1 g1 e1 s1 J sq
    obtain ⟨Gp, Y, wk, hG, hY⟩ := sq
    have h := h.later (e0.trans (e1.s st0.wf))
    refine for_it wk (fun i σ' H' => ∃ s' O' g' w', Frm E s' σ' H' O' g' ∧ St3 X.K H' O' g' w' ∧ EvoS H1 O1 g1 H' O' g' ∧ Ps X.K E H1 O1 g1 (forL (fun d s w => match tgt G.N tg d s with
        | some s => execs f x s w
        | none => .bad) (ds.drop i) s' w') D) ?_ ?_ ?_ ?_
    · exact ⟨frzN G iter s, O1, g1, w1, fr0.evo st0 e1, s1, EvoS.refl, by simpa using h⟩
    · rintro i σ' H' hi ⟨s', O', g', w', _, _, ee, _⟩
      exact hG H' O' g' ee
    · rintro i y σ' H' H'' hi ⟨s', O', g', w', fr', st', ee, rest⟩ hy
      obtain ⟨rfl, d, hdi, rx⟩ := hY i H' O' g' y H'' ee hi hy
      have hdrop : ds.drop i = d :: ds.drop (i + 1) := by
        obtain ⟨hl, e⟩ := List.getElem?_eq_some_iff.mp hdi
        rw [List.drop_eq_getElem_cons hl, e]
      rw [hdrop] at rest
      unfold forL at rest
      cases ht : tgt G.N tg d s' with
      | none => rw [ht] at rest; exact rest.elim
      | some s2 =>
        rw [ht] at rest
        dsimp only at rest
        refine ⟨s', O', g', w', d, s2, fr', st', rx, ht, fun σ2 fr2 => ⟨s2, O', g', w', fr2, st', ?_⟩⟩
        cases hx : execs f x s2 w' with
        | exc c w2 => rw [hx] at rest; exact rest
        | bad => rw [hx] at rest; exact rest
        | ok o w2 =>
          rw [hx] at rest
          simp only [R.bind_ok] at rest
          cases o with
          | nxt s3 => exact fun σ3 H3 O3 g3 ⟨f3, st3, e3⟩ => ⟨s3, O3, g3, w2, f3, st3, ee.trans e3, rest⟩
          | cnt s3 => exact fun σ3 H3 O3 g3 ⟨f3, st3, e3⟩ => ⟨s3, O3, g3, w2, f3, st3, ee.trans e3, rest⟩
          | brk s3 => exact fun σ3 H3 O3 g3 ⟨f3, st3, e3⟩ => rest _ _ _ _ ⟨f3, st3, ee.trans e3⟩
          | ret v => exact rest
    · rintro σ' H' ⟨s', O', g', w', fr', st', ee, rest⟩
      rw [List.drop_length] at rest
      exact rest _ _ _ _ ⟨fr', st', ee⟩
/-! ### return -/
theorem ss_ret (gd : GoodS X G k E) (hc : chk (n + 1) G.N X.env.scope e = true) : PS X (.Return (some e) pos) (tX X.K E fun s w => retW G (ev (n + 1) G s) e s w) := by
  refine ⟨fun pins sh σ H D I ⟨s, O, g, w, f, st, h⟩ => ?_⟩
  cases ho : isOwn G e s with
  | some jd =>
    obtain ⟨j, ds⟩ := jd
    obtain ⟨y, py, rfl, hj, hsj⟩ := isOwn_some ho
    have hv : nameB G.N X.env.scope y = true := hc
    unfold nameB at hv
    rw [hj] at hv
    obtain ⟨v1, v2, v3⟩ := vis_of hv
    refine (ps_ret (pe_var (i := j) (by rw [gd.N]; exact idx_get hj) v1 v2 v3)).run pins sh σ H D I ?_
    simp only [retW, ho] at h
    obtain ⟨v, k1, aa, rfl, o, nw, l⟩ := f.sr.at' j _ hsj
    exact ⟨_, k1, h _ _ _ _ f.ev st ⟨aa, rfl, o, nw, f.fr j ds aa hsj k1, l⟩⟩
  | none =>
    refine (ps_ret (sound_e (n + 1) gd.toGood hc).1).run pins sh σ H D I ?_
    simp only [retW, ho] at h
    refine ⟨s, O, g, w, f.sr, st, ?_⟩
    cases hv : ev (n + 1) G s e w with
    | exc c w1 => rw [hv] at h; exact h
    | bad => rw [hv] at h; exact h
    | ok r w1 =>
      rw [hv] at h
      simp only [R.bind_ok] at h
      intro H1 O1 g1 e1 s1 v rv
      cases r with
      | bor ds => exact h.elim
      | val d => exact h _ _ _ _ (f.ev.trans e1) s1 rv
      | own ds =>
        obtain ⟨aa, rfl, o, nw, f0, l⟩ := rv
        exact h _ _ _ _ (f.ev.trans e1) s1 ⟨aa, rfl, o, nw, f.ev.back f0, l⟩
/-! ### an expression alone -/
theorem isMut_some {x m : Str} {aa : Expr} (h : isMut e = some (x, m, aa)) : ∃ px pa pc, e = .Call (.Attribute (.Name x px) m pa) [aa] [] pc ∧ (m = "append" ∨ m = "remove") := by
  unfold isMut at h
  split at h
  · split at h
    · rename_i hm
      cases h
      exact ⟨_, _, _, rfl, hm⟩
    · cases h
  · cases h
theorem Reps.ints2 {g : Gh} {O : Os} {H : Hp} {ds : List D} {ns : List Int} (h : asInts ds = some ns) : ds = ns.map .int := by
  induction ds generalizing ns with
  | nil => cases h; rfl
  | cons d r ih =>
    cases d with
    | int i =>
      simp only [asInts, Option.map_eq_some_iff] at h
      obtain ⟨ms, h1, rfl⟩ := h
      rw [ih h1]; rfl
    | _ => simp [asInts] at h
theorem ss_mut {x m : Str} {aa : Expr} {px pa pc : Pos} (gd : GoodS X G k E) (hm : m = "append" ∨ m = "remove") (hn : nameB G.N X.env.scope x = true) (hc : chk n G.N X.env.scope aa = true) (hl : (pa.endLine == pc.line) = true) :
    PS X (.Expr (.Call (.Attribute (.Name x px) m pa) [aa] [] pc) pos) (tX X.K E fun s w => (mutW G (ev n G) x m aa s w).bind fun s w => .ok (.nxt s) w) := by
  refine ⟨fun pins sh σ H D I ⟨s, O, g, w, f, st, h⟩ => ?_⟩
  have h := h.of_bind
  cases hi : idx G.N x with
  | none => simp only [mutW, hi] at h; exact h.elim
  | some i =>
    simp only [mutW, hi] at h
    unfold nameB at hn
    rw [hi] at hn
    obtain ⟨v1, v2, v3⟩ := vis_of hn
    have pv := pe_var (X := X) (i := i) (pos := px) (by rw [gd.N]; exact idx_get hi) v1 v2 v3
    have A : PA X [aa] (tA X.K n G [aa]) := sv_args (es := [aa]) (fun e he => by rw [List.mem_singleton.mp he]; exact hc) fun e he => by rw [List.mem_singleton.mp he]; exact (sound_e n gd.toGood hc).1
    cases hs : s[i]? with
    | none => rw [hs] at h; exact h.elim
    | some o =>
      cases o with
      | none => rw [hs] at h; exact h.elim
      | some r0 =>
        cases r0 with
        | val d => rw [hs] at h; exact h.elim
        | bor d => rw [hs] at h; exact h.elim
        | own ds =>
          rw [hs] at h
          dsimp only at h
          obtain ⟨v0, k1, al, rfl, o, nw, l⟩ := f.sr.at' i _ hs
          have common : ∀ {r : V → List V → Hp → VK → Prop}, (∀ {H1 : Hp} {O1 : Os} {g1 : Gh} {w1 : Wd} {y : V} {d : PyData} {vs : List V}, Evo H O g H1 O1 g1 → St3 X.K H1 O1 g1 w1 → Rep g1 O1 H1 y d → ∀ ds', mutop m ds d = some ds' → H1 al = some (.lst vs) → Reps g1 O1 H1 vs ds → (∀ us, Reps g1 O1 H1 us ds' → D.nx σ (upd H1 al (.lst us))) → r (.ref al) [y] H1 fun _ H2 => D.nx σ H2) → tDrop (tBM X.K "list" r (tVar i) (tA X.K n G [aa])) D σ H := fun {r} hr => by
            obtain ⟨vs0, l1, l2⟩ := l
            refine ⟨_, k1, .inl ⟨rfl, vs0, SqL.of l1⟩, s, O, g, w, f.sr, st, ?_⟩
            rw [evsW_one]
            cases hv : ev n G s aa w with
            | exc c w1 => rw [hv] at h; exact h.elim
            | bad => rw [hv] at h; exact h.elim
            | ok ry w1 =>
              rw [hv] at h
              simp only [R.bind_ok] at h ⊢
              intro H1 O1 g1 e1 s1 us ru
              cases hf : frz ry with
              | none => rw [hf] at h; exact h.elim
              | some d =>
                rw [hf] at h
                dsimp only at h
                cases hmu : mutop m ds d with
                | none => rw [hmu] at h; exact h.elim
                | some ds' =>
                  rw [hmu] at h
                  dsimp only at h
                  cases ru with
                  | @cons y _ us' _ r1 rt =>
                    cases rt
                    have ry' : Rep g1 O1 H1 y d := by
                      cases ry with
                      | val d' => cases hf; exact r1
                      | own ds => cases hf; exact r1
                      | bor ds => cases hf
                    have k2 := e1.keep _ _ l1 nw
                    have k3 := st.reps e1 l2
                    refine hr e1 s1 ry' ds' hmu k2 k3 fun us ru => ?_
                    obtain ⟨f2, s2, e2⟩ := (f.evo st e1).mut (w := w1) s1 hs k1 (e1.omono _ o) (WA.of_evo e1 (by rw [l1]; simp) nw) k2 ru
                    exact h _ _ _ _ ⟨f2, s2, (e1.s st.wf).trans e2⟩
          rcases hm with rfl | rfl
          · refine (ps_expr (pe_bm PySem.F.plainAttrs_list PySem.F.slot_list_append PySem.F.type_list_append mt_append pv A base_name (few_of hc) hl (star_of hc) rfl) rfl).run pins sh σ H D I (common fun {H1 O1 g1 w1 y d vs} e1 s1 ry ds' hmu k2 k3 fin => ?_)
            unfold mutop at hmu
            rw [if_pos rfl] at hmu
            split at hmu
            · rename_i hlt
              cases hmu
              exact ⟨al, vs, y, rfl, rfl, k2, by rw [k3.length]; exact Nat.lt_of_lt_of_le hlt cap_line, fin _ (k3.append (.cons ry .nil))⟩
            · cases hmu
          · refine (ps_expr (pe_bm PySem.F.plainAttrs_list PySem.F.slot_list_remove PySem.F.type_list_remove mt_remove pv A base_name (few_of hc) hl (star_of hc) rfl) rfl).run pins sh σ H D I (common fun {H1 O1 g1 w1 y d vs} e1 s1 ry ds' hmu k2 k3 fin => ?_)
            unfold mutop at hmu
            rw [if_neg (by decide +kernel), if_pos rfl] at hmu
            split at hmu
            · rename_i ns z hns
              simp only [Option.map_eq_some_iff] at hmu
              obtain ⟨j, hj, rfl⟩ := hmu
              cases ry
              have e1' := k3.ints hns
              have e2' := Reps.ints2 (g := g1) (O := O1) (H := H1) hns
              subst e1'
              obtain ⟨⟨q, q1, q2⟩, q3⟩ := findD_ok hj
              rw [e2'] at q1 q3
              have conv : ∀ (i : Nat) (q : PyData), (ns.map PyData.int)[i]? = some q → ∃ y, ns[i]? = some y ∧ q = .int y := fun i q hq => by
                rw [List.getElem?_map] at hq
                cases hh : ns[i]? with
                | none => rw [hh] at hq; cases hq
                | some y => rw [hh] at hq; exact ⟨y, rfl, (Option.some.inj hq).symm⟩
              obtain ⟨y, hy, rfl⟩ := conv j q q1
              have hy2 : y = z := by simpa [PyData.eqv] using q2
              subst hy2
              refine ⟨al, ns, y, j, rfl, rfl, k2, hy, fun m hm hc => ?_, ?_⟩
              · have := q3 m (.int y) hm (by rw [List.getElem?_map, hc]; rfl)
                simp [PyData.eqv] at this
              · have r3 := k3.eraseIdx j
                rw [erase_mapI] at r3
                exact fin _ r3
            · cases hmu
end
end TM

namespace TM
open PySem PySem.Spec PyProof.Rows L2

/-! ### the looks at statements -/
def chkNm (sc : Scope) (e : Expr) : Bool := match e with
  | .Name x _ => locB sc x
  | _ => false
def chkTgF (sc : Scope) (e : Expr) : Bool := match e with
  | .Tuple es _ _ => es.all (chkNm sc)
  | e => chkNm sc e
def notComp : Expr → Bool
  | .ListComp _ _ _ _ => false
  | .SetComp _ _ _ _ => false
  | .DictComp _ _ _ _ _ => false
  | _ => true
def lineOk (e : Expr) : Bool := match e with
  | .Call (.Attribute _ _ pa) _ _ pc => pa.endLine == pc.line
  | _ => false
def chkPar (N : List Str) (sc : Scope) (tts : List Expr) (x y : Str) : Bool := match tts with
  | [.Name x' _, .Name y' _] => decide (x' = x) && decide (y' = y) && decide (sc.names.lookup x = some .local) && decide (sc.names.lookup y = some .local) && (idx N x).isSome && (idx N y).isSome && decide (idx N x ≠ idx N y)
  | _ => false
def chkAsg (N : List Str) (sc : Scope) (t e : Expr) : Bool := match t with
  | .Name x _ => locB sc x
  | .Tuple tts _ _ => (match e with
    | .Tuple vs _ _ => (match swapP sc tts vs with
      | some none => tts.all (chkSt evF N sc)
      | some (some [x, y]) => chkPar N sc tts x y
      | _ => false)
    | _ => tts.all (chkSt evF N sc))
  | .Subscript o b pb => chkSt evF N sc (.Subscript o b pb)
  | _ => false
def chkS : Nat → List Str → Scope → Stmt → Bool
  | 0, _, _, _ => false
  | n + 1, N, sc, st => match st with
    | .Assign ts e _ => (match ts with
      | [t] => chkAsg N sc t e && chk evF N sc e
      | _ => false)
    | .AugAssign t _ e _ => (match t with
      | .Name x _ => locB sc x && chk evF N sc e
      | _ => false)
    | .If c a b _ => chk evF N sc c && noIf c && a.all (chkS n N sc) && b.all (chkS n N sc)
    | .For tg iter body orelse _ => chk evF N sc iter && argsOk (chk evF N sc) iter && chkTgF sc tg && body.all (chkS n N sc) && orelse.isEmpty
    | .While c body orelse _ => chk evF N sc c && noIf c && body.all (chkS n N sc) && orelse.isEmpty
    | .Return e _ => (match e with
      | none => true
      | some e => chk evF N sc e)
    | .Expr e _ => (match isMut e with
      | some (x, _, a) => nameB N sc x && chk evF N sc a && lineOk e
      | none => chk evF N sc e && notComp e)
    | _ => true
section
variable {X : Cx} {G : Cn} {E : En} {n k : Nat} {pos p : Pos} {e a b c t : Expr}
theorem gl_call {n : Nat} {N : List Str} {sc : Scope} {gn : Str} {pg pr : Pos} {as : List Expr} {kw : List Keyword} (h : chk (n + 1) N sc (.Call (.Name gn pg) as kw pr) = true) : glB sc gn = true := by
  simp only [chk, Bool.and_eq_true] at h
  exact h.2
theorem ps_bad {st : Stmt} {f : Sl → Wd → R Out} (h : ∀ s w, f s w = .bad) : PS X st (tX X.K E f) := ⟨fun pins sh σ H D I ⟨s, O, g, w, fr, st, q⟩ => by rw [h] at q; exact q.elim⟩
theorem tgF_ok {sc : Scope} (h : chkTgF sc t = true) : (∀ x px, (t = .Name x px ∨ ∃ es k p, t = .Tuple es k p ∧ .Name x px ∈ es) → Loc sc x) ∧ ∀ es k p, t = .Tuple es k p → ∀ e ∈ es, ∃ x px, e = .Name x px := by
  cases t with
  | Name x px =>
    refine ⟨fun y py hy => ?_, fun es k p he => by cases he⟩
    rcases hy with hy | ⟨es, k, p, hy, _⟩
    · cases hy; exact loc_of h
    · cases hy
  | Tuple es kk pp =>
    have h2 := List.all_eq_true.mp (show es.all (chkNm sc) = true from h)
    refine ⟨fun y py hy => ?_, fun es' k p he e hm => ?_⟩
    · rcases hy with hy | ⟨es', k, p, hy, hm⟩
      · cases hy
      · cases hy; exact loc_of (h2 _ hm)
    · cases he
      have := h2 e hm
      cases e <;> first | exact ⟨_, _, rfl⟩ | (simp [chkNm] at this)
  | _ => simp [chkTgF, chkNm] at h
theorem sole_tup {ts : List Expr} {kt : Nat} {pt : Pos} {l : Nat} (h : notComp e = true ∨ True) : swapsWithSole [.Tuple ts kt pt] e l X.env = pure false := by
  cases e <;> rfl
theorem sole_sub {o i : Expr} {pt : Pos} {l : Nat} : swapsWithSole [.Subscript o i pt] e l X.env = pure false := by
  cases e <;> rfl
theorem swn_tup {ts : List Expr} {kt : Nat} {pt : Pos} (h : ∀ vs k p, e ≠ .Tuple vs k p) : swappedStores [.Tuple ts kt pt] e X.env = pure none := by
  cases e <;> first | rfl | exact absurd rfl (h _ _ _)
theorem ss_asg (gd : GoodS X G k E) (h1 : chkAsg G.N X.env.scope t e = true) (h2 : chk evF G.N X.env.scope e = true) : PS X (.Assign [t] e pos) (tX X.K E fun s w => (asgW G (ev evF G) t e s w).bind fun s w => .ok (.nxt s) w) := by
  have pe := (sound_e evF gd.toGood h2).1
  cases t with
  | Name x px => exact ss_name (n := 39) gd (fun i _ => loc_of h1) h2
  | Subscript o b pb => exact ss_sub (n := evF) gd h1 pe sole_sub
  | Tuple tts kt pt =>
    by_cases he : ∃ vs k2 p2, e = .Tuple vs k2 p2
    · obtain ⟨vs, k2, p2, rfl⟩ := he
      have h1 : (match swapP X.env.scope tts vs with
        | some none => tts.all (chkSt evF G.N X.env.scope)
        | some (some [x, y]) => chkPar G.N X.env.scope tts x y
        | _ => false) = true := h1
      split at h1
      · rename_i hsw
        exact ss_tup (n := evF) gd (List.all_eq_true.mp h1) pe (sole_tup (.inr trivial)) (swap_eq gd.kind hsw)
      · rename_i x y hsw
        have hw := swap_eq (k := kt) (k2 := k2) (p := pt) (p2 := p2) gd.kind hsw
        have hvs : vs.length = tts.length := by
          unfold swapP at hsw
          cases q : (!(tts.length == 2 || tts.length == 3) || vs.length != tts.length) with
          | true => rw [q] at hsw; cases hsw
          | false =>
            simp only [Bool.or_eq_false_iff, bne_eq_false_iff_eq] at q
            exact q.2
        unfold chkPar at h1
        split at h1
        · rename_i x' px y' py
          simp only [Bool.and_eq_true, decide_eq_true_eq] at h1
          obtain ⟨⟨⟨⟨⟨⟨rfl, rfl⟩, l1⟩, l2⟩, i1⟩, i2⟩, ne⟩ := h1
          obtain ⟨i, hi⟩ := Option.isSome_iff_exists.mp i1
          obtain ⟨j, hj⟩ := Option.isSome_iff_exists.mp i2
          match vs, hvs, h2, hw with
          | [a, b], _, h2, hw =>
            have h3 : ∀ e ∈ [a, b], chk 39 G.N X.env.scope e = true := by
              have : [a, b].all (chk 39 G.N X.env.scope) = true := h2
              exact List.all_eq_true.mp this
            exact ss_par (n := 39) gd hi hj (fun z => ne (by rw [hi, hj, z])) l1 l2 h3 (fun e he => (sound_e 39 gd.toGood (h3 e he)).1) hw
        · cases h1
      · cases h1
    · have hne : ∀ vs k p, e ≠ .Tuple vs k p := fun vs k p z => he ⟨vs, k, p, z⟩
      have h1 : tts.all (chkSt evF G.N X.env.scope) = true := by
        unfold chkAsg at h1
        dsimp only at h1
        split at h1
        · exact absurd rfl (hne _ _ _)
        · exact h1
      exact ss_tup (n := evF) gd (List.all_eq_true.mp h1) pe (sole_tup (.inr trivial)) (swn_tup hne)
  | _ => cases h1
/-- THE SOUNDNESS of statements -/
theorem sound_s : ∀ (n : Nat) {st : Stmt}, GoodS X G k E → chkS n G.N X.env.scope st = true → PS X st (tX X.K E (ex n G st)) := by
  intro n
  induction n with
  | zero => intro st gd hc; simp [chkS] at hc
  | succ n ih =>
    intro st gd hc
    have blk : ∀ {body : List Stmt}, body.all (chkS n G.N X.env.scope) = true → PSs X body (tX X.K E (execs (ex n G) body)) := fun h => sx_seq fun st hs => ih gd (List.all_eq_true.mp h st hs)
    cases st with
    | Assign ts e pos =>
      match ts, hc with
      | [t], hc =>
        have hc : (chkAsg G.N X.env.scope t e && chk evF G.N X.env.scope e) = true := hc
        simp only [Bool.and_eq_true] at hc
        exact ss_asg gd hc.1 hc.2
      | [], hc => cases hc
      | _ :: _ :: _, hc => cases hc
    | AugAssign t op e pos =>
      cases t with
      | Name x px =>
        have hc : (locB X.env.scope x && chk evF G.N X.env.scope e) = true := hc
        simp only [Bool.and_eq_true] at hc
        exact ss_aug gd hc.1 (sound_e evF gd.toGood hc.2).1
      | _ => cases hc
    | If c a b pos =>
      have hc : (chk evF G.N X.env.scope c && noIf c && a.all (chkS n G.N X.env.scope) && b.all (chkS n G.N X.env.scope)) = true := hc
      simp only [Bool.and_eq_true] at hc
      exact ss_if ((sound_e evF gd.toGood hc.1.1.1).2 hc.1.1.2) (blk hc.1.2) (blk hc.2)
    | While c body orelse pos =>
      have hc : (chk evF G.N X.env.scope c && noIf c && body.all (chkS n G.N X.env.scope) && orelse.isEmpty) = true := hc
      simp only [Bool.and_eq_true, List.isEmpty_iff] at hc
      obtain ⟨⟨⟨h1, h2⟩, h3⟩, rfl⟩ := hc
      exact ss_while gd ((sound_e evF gd.toGood h1).2 h2) (blk h3)
    | For tg iter body orelse pos =>
      have hc : (chk evF G.N X.env.scope iter && argsOk (chk evF G.N X.env.scope) iter && chkTgF X.env.scope tg && body.all (chkS n G.N X.env.scope) && orelse.isEmpty) = true := hc
      simp only [Bool.and_eq_true, List.isEmpty_iff] at hc
      obtain ⟨⟨⟨⟨h1, h2⟩, h3⟩, h4⟩, rfl⟩ := hc
      obtain ⟨t1, t2⟩ := tgF_ok h3
      refine ss_for gd ?_ (sv_tg gd.calm gd.nd gd.N (fun x px hx i _ => ⟨t1 x px hx, .inl (gd.fn x)⟩) t2) (blk h4) (folded_of h1)
      refine sv_iter gd.toGood h1 (sound_e evF gd.toGood h1).1 (fun as hr e he => ?_) fun gn pg as pr he => ?_
      · obtain ⟨gn, pg, pr, rfl, g1, g2⟩ := isRange_some hr
        have ha2 : ∀ e ∈ as, chk evF G.N X.env.scope e = true := by simpa [argsOk, List.all_eq_true] using h2
        exact ⟨ha2 e he, (sound_e evF gd.toGood (ha2 e he)).1⟩
      · subst he
        exact gl_call (n := 39) h1
    | Return e pos =>
      cases e with
      | none => exact ps_retN.imp fun D σ H ⟨s, O, g, w, fr, st, h⟩ => h _ _ _ _ fr.ev st .non
      | some e => exact ss_ret (n := 39) gd hc
    | Expr e pos =>
      cases hm : isMut e with
      | some xma =>
        obtain ⟨x, m, aa⟩ := xma
        obtain ⟨px, pa, pc, rfl, hmm⟩ := isMut_some hm
        have hc : (nameB G.N X.env.scope x && chk evF G.N X.env.scope aa && lineOk (.Call (.Attribute (.Name x px) m pa) [aa] [] pc)) = true := by
          have : chkS (n + 1) G.N X.env.scope (.Expr (.Call (.Attribute (.Name x px) m pa) [aa] [] pc) pos) = true := hc
          simp only [chkS, hm] at this
          exact this
        simp only [Bool.and_eq_true] at hc
        refine (ss_mut gd hmm hc.1.1 hc.1.2 hc.2).imp fun D σ H ⟨s, O, g, w, fr, st, h⟩ => ⟨s, O, g, w, fr, st, ?_⟩
        simp only [ex, exprW, hm] at h
        exact h
      | none =>
        have hc : (chk evF G.N X.env.scope e && notComp e) = true := by
          have : chkS (n + 1) G.N X.env.scope (.Expr e pos) = true := hc
          simp only [chkS, hm] at this
          exact this
        simp only [Bool.and_eq_true] at hc
        have hsw : swapsWith e none pos.line X.env = pure false := by
          have := hc.2
          cases e <;> first | rfl | cases this
        refine (ps_expr (sound_e evF gd.toGood hc.1).1 hsw).imp fun D σ H ⟨s, O, g, w, fr, st, h⟩ => ⟨s, O, g, w, fr.sr, st, ?_⟩
        simp only [ex, exprW, hm] at h
        cases hv : ev evF G s e w with
        | exc c w1 => rw [hv] at h; exact h
        | bad => rw [hv] at h; exact h
        | ok r w1 =>
          rw [hv] at h
          intro H1 O1 g1 e1 s1 v rv
          exact h _ _ _ _ ⟨fr.evo st e1, s1, e1.s st.wf⟩
    | Pass pos => exact ps_pass.imp fun D σ H ⟨s, O, g, w, fr, st, h⟩ => h _ _ _ _ ⟨fr, st, EvoS.refl⟩
    | Break pos => exact ps_break.imp fun D σ H ⟨s, O, g, w, fr, st, h⟩ => h _ _ _ _ ⟨fr, st, EvoS.refl⟩
    | Continue pos => exact ps_continue.imp fun D σ H ⟨s, O, g, w, fr, st, h⟩ => h _ _ _ _ ⟨fr, st, EvoS.refl⟩
    | _ => exact ps_bad fun _ _ => rfl
end

/-! ### defs -/
theorem srep_start {g : Gh} {O : Os} {H : Hp} {N : List Str} {vs : List V} {ds : List D} (r : Reps g O H vs ds) : SRep g O H (L2.start N vs) (slotsOf N ds) := by
  have get : ∀ (i : Nat) (x : RV), (slotsOf N ds)[i]? = some (some x) → ∃ d, ds[i]? = some d ∧ x = .val d := fun i x h => by
    unfold slotsOf at h
    by_cases hl : i < ds.length
    · rw [List.getElem?_append_left (by simpa using hl), List.getElem?_map] at h
      cases hd : ds[i]? with
      | none => rw [hd] at h; cases h
      | some d => rw [hd] at h; cases h; exact ⟨d, rfl, rfl⟩
    · rw [List.getElem?_append_right (by simp; omega)] at h
      have := List.getElem?_eq_some_iff.mp h
      obtain ⟨_, e⟩ := this
      rw [List.getElem_replicate] at e
      cases e
  refine ⟨by unfold slotsOf L2.start; simp [r.length], fun i x h => ?_, fun i j a d1 d2 _ h1 _ _ _ => ?_⟩
  · obtain ⟨d, hd, rfl⟩ := get i x h
    obtain ⟨v, hv, rv⟩ := r.get hd
    refine ⟨v, ?_, rv⟩
    unfold L2.start
    rw [List.getElem?_append_left (by rw [List.length_map]; exact (List.getElem?_eq_some_iff.mp hv).1), List.getElem?_map, hv]
    rfl
  · obtain ⟨d, _, e⟩ := get i _ h1
    cases e
/-- what the top has left of a def -/
structure DefOk (P : Program) (w : World) (K : PySem.W.Frag) (mg : Str → Option Value) (x : Str) (fd : FD) : Prop where
  ex : ∃ f fdat, Fun K x x fd.st f fdat ∧ mg x = some (.ref f) ∧ Binds K fdat (fd.N.take fd.np) [] ∧
    match fd.kd with
    | .body => FnScope fd.N (fd.N.take fd.np) (defScope fd.st) ∧ (fd.N.take fd.np).length = fd.np ∧ (defBody fd.st).all (chkS exF fd.N (defScope fd.st)) = true
    | .start => ∀ base n, FnOk P w K mg base CX0 (n + 1) f fdat (fd.N.take fd.np) (spT K startT)
    | .draw => ∀ base n, FnOk P w K mg base CX0 (n + 1) f fdat (fd.N.take fd.np) (spT K drawT)
structure PgOk (P : Program) (w : World) (K : PySem.W.Frag) (mg : Str → Option Value) (pg : Pg) : Prop where
  dfs : ∀ x fd, pg.fs.lookup x = some fd → DefOk P w K mg x fd
  blt : ∀ x b, pg.fs.lookup x = none → bltTab.lookup x = some b → mg x = none
  ty : ∀ t ∈ tyNames, mg t = none
  cst : ∀ x d, pg.cs.lookup x = some d → ∃ v u, mg x = some u ∧ RelV v u ∧ ∀ g O H, Rep g O H v d
theorem fn_ok {P : Program} {w : World} {K : PySem.W.Frag} {mg : Str → Option Value} {base : Heap} {pg : Pg} (ok : PgOk P w K mg pg) : ∀ (n : Nat) (x : Str) (fd : FD), pg.fs.lookup x = some fd →
    ∃ f fdat, Fun K x x fd.st f fdat ∧ mg x = some (.ref f) ∧ PySem.W.keepIn K (.ref f) = true ∧ Binds K fdat (fd.N.take fd.np) [] ∧ FnOk P w K mg base CX0 n f fdat (fd.N.take fd.np) (spT K (pg.T n x)) := by
  intro n
  induction n with
  | zero =>
    intro x fd hx
    obtain ⟨f, fdat, F, m, b, _⟩ := (ok.dfs x fd hx).ex
    exact ⟨f, fdat, F, m, F.kp, b, ⟨fun vs H Q E ⟨_, _, _, _, _, _, h⟩ => (h : False).elim, fun A outer s H args us vs Q E _ _ _ _ ⟨_, _, _, _, _, _, h⟩ => (h : False).elim⟩⟩
  | succ n ih =>
    intro x fd hx
    obtain ⟨f, fdat, F, m, b, rest⟩ := (ok.dfs x fd hx).ex
    refine ⟨f, fdat, F, m, F.kp, b, ?_⟩
    have hT : ∀ ds w, pg.T (n + 1) x ds w = if ds.length = fd.np then (match fd.kd with
      | .start => startT ds w
      | .draw => drawT ds w
      | .body => outV (execs (TM.ex exF ⟨pg.T n, fun x => (pg.fs.lookup x).isSome, fun x => pg.cs.lookup x, fd.N, fd.mt⟩) (L2.defBody fd.st) (slotsOf fd.N ds) w)) else .bad := fun ds w => by
      show (match pg.fs.lookup x with
        | none => R.bad
        | some fd => _) = _
      rw [hx]
      try rfl
    have prim : ∀ {T : List D → Wd → R RV}, FnOk P w K mg base CX0 (n + 1) f fdat (fd.N.take fd.np) (spT K T) → (∀ ds w r w', pg.T (n + 1) x ds w = .ok r w' → T ds w = .ok r w') → FnOk P w K mg base CX0 (n + 1) f fdat (fd.N.take fd.np) (spT K (pg.T (n + 1) x)) := fun {T} h e => by
      refine h.imp fun vs H Q E ⟨O, g, w, ds, st, r, q⟩ => ⟨O, g, w, ds, st, r, ?_⟩
      cases hv : pg.T (n + 1) x ds w with
      | ok a w' => rw [hv] at q; rw [e ds w a w' hv]; exact q
      | exc c w' => rw [hv] at q; exact q.elim
      | bad => rw [hv] at q; exact q.elim
    cases hk : fd.kd with
    | start =>
      rw [hk] at rest
      refine prim (rest base n) fun ds w r w' h => ?_
      rw [hT, hk] at h
      split at h
      · exact h
      · cases h
    | draw =>
      rw [hk] at rest
      refine prim (rest base n) fun ds w r w' h => ?_
      rw [hT, hk] at h
      split at h
      · exact h
      · cases h
    | body =>
      rw [hk] at rest hT
      obtain ⟨S, hl, hc⟩ := rest
      refine F.ok S (fun vs H Q E ⟨O, g, w, ds, st, r, q⟩ => ?_) fun cdv A outer s H vs Q E hr ⟨O, g, wd, ds, st, r, q⟩ => ?_
      · rw [r.length, hl]
        rw [hT] at q
        split at q
        · assumption
        · exact q.elim
      · have gd : GoodS ((cxOf CX0 P w K mg base fd.N x (defScope fd.st) f cdv A outer s H E).nox) ⟨pg.T n, fun x => (pg.fs.lookup x).isSome, fun x => pg.cs.lookup x, fd.N, fd.mt⟩ n ⟨H, O, g⟩ :=
          { calm := rfl, nd := S.nd, N := rfl, kind := S.kind, room := hr,
            dfn := fun y hy => by
              obtain ⟨fd', hf⟩ := Option.isSome_iff_exists.mp (show (pg.fs.lookup y).isSome = true from hy)
              obtain ⟨f', fdat', _, h1, h2, h3, h4⟩ := ih y fd' hf
              exact ⟨f', fdat', _, h1, h2, h3, h4⟩
            blt := fun y b hd hb => ok.blt y b (by
              cases hq : pg.fs.lookup y with
              | none => rfl
              | some z =>
                have : (pg.fs.lookup y).isSome = false := hd
                rw [hq] at this; cases this) hb
            ty := ok.ty, cst := ok.cst, po := PassesOwn.never, wE := st.wf, fn := fun _ => rfl }
        refine ⟨_, sx_seq fun st0 hs => sound_s exF gd (List.all_eq_true.mp hc st0 hs), slotsOf fd.N ds, O, g, wd, ⟨srep_start r, Evo.refl, fun i es a h1 h2 => ?_⟩, st, ?_⟩
        · obtain ⟨v, k1, k2⟩ := (srep_start (N := fd.N) r).at' i _ h1
          exfalso
          unfold slotsOf at h1
          by_cases hl : i < ds.length
          · rw [List.getElem?_append_left (by simpa using hl), List.getElem?_map] at h1
            cases hd : ds[i]? with
            | none => rw [hd] at h1; cases h1
            | some d => rw [hd] at h1; cases h1
          · rw [List.getElem?_append_right (by simp; omega)] at h1
            obtain ⟨_, e⟩ := List.getElem?_eq_some_iff.mp h1
            rw [List.getElem_replicate] at e
            cases e
        · rw [hT] at q
          split at q
          · unfold outV at q
            generalize execs _ (L2.defBody fd.st) (slotsOf fd.N ds) wd = m at q ⊢
            cases m with
            | exc c w1 => exact q
            | bad => exact q
            | ok o w1 =>
              cases o with
              | nxt s1 => exact fun σ' H' O' g' ⟨f', st', _⟩ => q _ _ _ f'.ev st' _ .non
              | ret v => exact fun v' H' O' g' ee ss rv => q _ _ _ ee ss v' rv
              | brk s1 => exact q.elim
              | cnt s1 => exact q.elim
          · exact q.elim
end TM

namespace TM
open PySem PySem.Spec PyProof.Rows L2

/-! ### the law's two doers: a draw, the start -/
theorem Paired.getR {α β : Type} {F : α → β → Prop} : ∀ {l : List α} {m : List β} {k : Nat} {y : β}, Paired F l m → m[k]? = some y → ∃ x, l[k]? = some x ∧ F x y
  | _, _, _, _, .nil, h => by simp at h
  | _, _, 0, _, .cons r t, h => by simp at h; subst h; exact ⟨_, rfl, r⟩
  | _, _, k + 1, y, .cons r t, h => by
    obtain ⟨x, h1, h2⟩ := Paired.getR (k := k) (y := y) t (by simpa using h)
    exact ⟨x, by simpa using h1, h2⟩
theorem Paired.setR {α β : Type} {F F' : α → β → Prop} {y' : β} : ∀ {l : List α} {m : List β} {k : Nat}, Paired F l m → (∀ (j : Nat) x y, j ≠ k → l[j]? = some x → m[j]? = some y → F x y → F' x y) → (∀ x, l[k]? = some x → F' x y') → Paired F' l (m.set k y')
  | _, _, _, .nil, _, _ => by simp; exact .nil
  | _, _, 0, .cons (a := a) (b := b) r t, h, hk => by
    refine .cons (hk a rfl) ?_
    have : ∀ {l : List α} {m : List β}, Paired F l m → (∀ (j : Nat) x y, l[j]? = some x → m[j]? = some y → F x y → F' x y) → Paired F' l m := by
      intro l m p
      induction p with
      | nil => intro _; exact .nil
      | cons r t ih => intro h; exact .cons (h 0 _ _ rfl rfl r) (ih fun j x y h1 h2 => h (j + 1) x y (by simpa using h1) (by simpa using h2))
    exact this t fun j x y h1 h2 => h (j + 1) x y (by omega) (by simpa using h1) (by simpa using h2)
  | _, _, k + 1, .cons r t, h, hk => by
    refine .cons (h 0 _ _ (by omega) rfl rfl r) ?_
    exact Paired.setR t (fun j x y hj h1 h2 => h (j + 1) x y (by omega) (by simpa using h1) (by simpa using h2)) fun x hx => hk x (by simpa using hx)
theorem adr_apart : ∀ {g : Gh} {j k : Nat} {o o' : GO}, (g.flatMap GO.adr).Nodup → g[j]? = some o → g[k]? = some o' → j ≠ k → ∀ x ∈ o.adr, x ∉ o'.adr
  | [], _, _, _, _, _, h, _, _, _, _ => by simp at h
  | a :: r, 0, 0, _, _, _, _, _, hn, _, _ => absurd rfl hn
  | a :: r, 0, k + 1, o, o', nd, h1, h2, _, x, hx => fun hx' => by
    simp at h1
    subst h1
    rw [List.flatMap_cons, List.nodup_append] at nd
    have : o' ∈ r := List.mem_of_getElem? (by simpa using h2)
    exact nd.2.2 x hx x (List.mem_flatMap.mpr ⟨o', this, hx'⟩) rfl
  | a :: r, j + 1, 0, o, o', nd, h1, h2, _, x, hx => fun hx' => by
    simp at h2
    subst h2
    rw [List.flatMap_cons, List.nodup_append] at nd
    have : o ∈ r := List.mem_of_getElem? (by simpa using h1)
    exact nd.2.2 x hx' x (List.mem_flatMap.mpr ⟨o, this, hx⟩) rfl
  | a :: r, j + 1, k + 1, o, o', nd, h1, h2, hn, x, hx => by
    rw [List.flatMap_cons, List.nodup_append] at nd
    exact adr_apart nd.2.1 (by simpa using h1) (by simpa using h2) (by omega) x hx
theorem nd_one : ∀ {g : Gh} {o : GO}, (g.flatMap GO.adr).Nodup → o ∈ g → o.adr.Nodup
  | a :: r, o, nd, h => by
    rw [List.flatMap_cons, List.nodup_append] at nd
    rcases List.mem_cons.mp h with rfl | h
    · exact nd.1
    · exact nd_one nd.2.1 h
/-- the draws' object moves on -/
theorem St3.draw {K : PySem.W.Frag} {H H' : Hp} {O : Os} {g : Gh} {w : Wd} {k : Nat} {a b : Addr} {ns ns' : List Int} {c c' : Int} (st : St3 K H O g w) (hg : g[k]? = some (.drw a b)) (hw : w[k]? = some (.drw ns c)) (ha : H' a = some (.lst [.ref b, .int c'])) (hb : H' b = some (.lst (ns'.map V.int))) (ho : ∀ x, x ≠ a → x ≠ b → H' x = H x) :
    Evo H O g H' O g ∧ St3 K H' O g (w.set k (.drw ns' c')) := by
  have wa : WA g a := ⟨_, List.mem_of_getElem? hg, by simp [GO.adr]⟩
  have wb : WA g b := ⟨_, List.mem_of_getElem? hg, by simp [GO.adr]⟩
  have ne : ∀ x, ¬ WA g x → x ≠ a ∧ x ≠ b := fun x n => ⟨fun z => n (by rw [z]; exact wa), fun z => n (by rw [z]; exact wb)⟩
  have there : ∀ x, H x ≠ none → H' x ≠ none := fun x h => by
    by_cases h1 : x = a
    · rw [h1, ha]; simp
    · by_cases h2 : x = b
      · rw [h2, hb]; simp
      · rw [ho x h1 h2]; exact h
  refine ⟨⟨fun x o h n => by rw [ho x (ne x n).1 (ne x n).2]; exact h, there, fun _ z => z, fun _ z => .inl z, List.prefix_refl _, fun _ z => .inl z⟩, ⟨st.wf.wao, fun x z => there x (st.wf.oal x z), fun x z vs => ?_⟩, ⟨?_, st.wr.nd⟩⟩
  · by_cases h1 : x = a
    · rw [h1, ha]; intro e; cases e
    · by_cases h2 : x = b
      · rw [h2, hb]; intro e; cases e
      · rw [ho x h1 h2]; exact st.wf.ot x z vs
  · refine Paired.setR st.wr.pr (fun j o y hj h1 h2 h => ?_) fun o h => ?_
    · have ap := adr_apart st.wr.nd h1 hg hj
      cases o with
      | drw p q => cases y with
        | drw ms d =>
          have n1 := ap p (by simp [GO.adr])
          have n2 := ap q (by simp [GO.adr])
          simp only [GO.adr, List.mem_cons, List.not_mem_nil, or_false, not_or] at n1 n2
          exact ⟨by rw [ho p n1.1 n1.2]; exact h.1, by rw [ho q n2.1 n2.2]; exact h.2⟩
        | orc o => exact h.elim
        | scr ms => exact h.elim
      | scr p => cases y with
        | drw ms d => exact h.elim
        | orc o => exact h.elim
        | scr ms =>
          refine h.elim (fun ⟨ob, q⟩ => .inl ⟨ob, ?_⟩) .inr
          have pa : p ≠ a := fun z => by
            obtain ⟨xs, e⟩ := st.wr.lst wa
            rw [z, e] at q; cases q
          have pb : p ≠ b := fun z => by
            obtain ⟨xs, e⟩ := st.wr.lst wb
            rw [z, e] at q; cases q
          rw [ho p pa pb]; exact q
    · rw [hg] at h
      cases h
      exact ⟨ha, hb⟩
abbrev rA : R2 := rI0 fun i j => .int (i + j)
abbrev rMd : R2 := rI (fun _ j => j ≠ 0) fun i j => .int (i.fmod j)
abbrev rDv : R2 := rI CDivN fun i j => .int (i.fdiv j)
abbrev rMl : R2 := rI CMul fun i j => .int (i * j)
abbrev rPw : R2 := rI CPow fun i j => .int (i ^ j.toNat)
abbrev rGe : R2 := rI0 fun i j => .bl (decide (j ≤ i))
def rLenQ (K : PySem.W.Frag) : List V → Hp → VK → Prop := fun xs H Q => ∃ p ys, xs = [.ref p] ∧ (SqL K H p ys ∨ SqT K H p ys) ∧ Q (.int ys.length) H
def rListQ (K : PySem.W.Frag) : List V → Hp → VK → Prop := fun xs H Q => ∃ p ys, xs = [.ref p] ∧ (SqL K H p ys ∨ SqT K H p ys) ∧ ∀ l, H l = none → Q (.ref l) (upd H l (.lst ys))
def d1 (K : PySem.W.Frag) : TE := tOp (rIxL K) (tVar 0) (tC (.int 1))
def t_draw (K : PySem.W.Frag) : TS :=
  tSeq (tAsg (tOp (rIxL K) (tVar 0) (tC (.int 0))) (gName 2))
  (tSeq (tAsg (tOp rA (d1 K) (tC (.int 1))) (gSub (tVar 0) (tC (.int 1)) rSetL))
  (tSeq (tAsg (tOp rMd (d1 K) (tCB (rLenQ K) (tCons (tVar 2) tNil))) (gName 3))
  (tSeq (tAsg (tOp (rIxL K) (tVar 2) (tVar 3)) (gName 4))
  (tSeq (tIfS (tTest (tOp rGe (tVar 4) (tC (.int 1000000000000000000))))
    (tSeq (tAsg (tOp rDv (tVar 4) (tVar 1)) (gSub (tVar 2) (tVar 3) rSetL)) (tRet (tOp rMd (tVar 4) (tVar 1)))) tNext)
  (tSeq (tAsg (tOp rMd (tOp rA (tVar 4) (tOp rMl (tC (.int 104729)) (d1 K))) (tC (.int 4294967291))) (gName 5))
  (tSeq (tAsg (tOp rMd (tOp rPw (tVar 5) (tC (.int 5))) (tC (.int 4294967279))) (gName 5))
  (tRet (tOp rMd (tOp rDv (tOp rMd (tOp rA (tOp rMl (tOp rDv (tVar 5) (tC (.int 64))) (tC (.int 69621))) (tVar 5)) (tC (.int 4294967231))) (tC (.int 8))) (tVar 1)))))))))
theorem fmod_lt {a b : Int} (hb : 0 < b) : 0 ≤ a.fmod b ∧ a.fmod b < b := ⟨Int.fmod_nonneg_of_pos a hb, Int.fmod_lt_of_pos a hb⟩
theorem ixN_of {n : Nat} {i : Int} (h0 : 0 ≤ i) (h1 : i < n) : ixN n i = some i.toNat := by
  unfold ixN
  rw [if_pos h0, if_pos h1]
theorem pure_draw {K : PySem.W.Frag} {N : List Str} (hN : N.length = 6) (vs : List V) (H : Hp) (Q : VK) (E : XK) (h : spT K drawT vs H Q E) : t_draw K { nx := fun _ H' => Q .non H', rt := Q } (L2.start N vs) H := by
  obtain ⟨O, g, w, ds, st, r, q⟩ := h
  unfold drawT at q
  split at q
  rotate_left
  · exact q.elim
  rename_i k limit
  split at q
  rotate_left
  · exact q.elim
  rename_i ns c hw
  split at q
  rotate_left
  · exact q.elim
  rename_i hc
  simp only [Bool.and_eq_true, Bool.not_eq_true', decide_eq_true_eq] at hc
  obtain ⟨⟨hdv, hne⟩, hlen⟩ := hc
  split at q
  rotate_left
  · exact q.elim
  rename_i v ns' hv
  obtain ⟨o, hg, ho⟩ := Paired.getR st.wr.pr hw
  cases o with
  | scr a => exact ho.elim
  | drw a b =>
    obtain ⟨ha, hb⟩ := ho
    cases r with
    | cons r1 rt =>
      cases rt with
      | cons r2 rt =>
        cases rt
        cases r2
        cases r1 with
        | spc hk =>
          rw [hg] at hk
          cases hk
          have hab : a ≠ b := by
            have := st.wr.nd
            intro z
            have h1 : (GO.adr (.drw a b)).Nodup := by
              have hm := List.mem_of_getElem? hg
              exact nd_one this hm
            simp [GO.adr, z] at h1
          have hst : L2.start N [V.ref (GO.drw a b).main, .int limit] = [some (.ref a), some (.int limit), none, none, none, none] := by
            unfold L2.start
            simp [hN, GO.main, List.replicate]
          rw [hst]
          have hl : (0 : Int) < (ns.length : Int) := by
            cases ns with
            | nil => cases hne
            | cons _ _ => simp
          obtain ⟨m0, m1⟩ := fmod_lt (a := c + 1) hl
          unfold drawV at hv
          generalize hat : (c + 1).fmod (ns.length : Int) = at' at hv m0 m1
          have hat2 : ((at'.toNat : Nat) : Int) = at' := Int.toNat_of_nonneg m0
          cases hce : ns[at'.toNat]? with
          | none => rw [hce] at hv; cases hv
          | some cell =>
          rw [hce] at hv
          dsimp only at hv
          have hcell : L2.atI (ns.map V.int) at' = some (.int cell) := by
            have := atI_nat (xs := ns.map V.int) (j := at'.toNat) (v := .int cell) (by rw [List.getElem?_map, hce]; rfl)
            rw [hat2] at this
            exact this
          have hb2 : ∀ y, upd H a (.lst [.ref b, .int y]) b = some (.lst (ns.map V.int)) := fun y => by rw [upd_ne (Ne.symm hab)]; exact hb
          refine ⟨.ref a, rfl, a, [.ref b, .int c], 0, .ref b, rfl, rfl, SqL.of ha, rfl, ?_⟩
          refine ⟨.ref a, rfl, a, [.ref b, .int c], 1, .int c, rfl, rfl, SqL.of ha, rfl, c, 1, rfl, rfl, .ref a, rfl, a, [.ref b, .int c], 1, 1, rfl, rfl, ha, rfl, ?_⟩
          show tSeq _ _ _ _ (upd H a (.lst [.ref b, .int (c + 1)]))
          refine ⟨.ref a, rfl, a, [.ref b, .int (c + 1)], 1, .int (c + 1), rfl, rfl, SqL.of upd_same, rfl, .ref b, rfl, b, ns.map V.int, rfl, .inl (SqL.of (hb2 _)), c + 1, _, rfl, rfl, ?_, ?_⟩
          · rw [List.length_map]; omega
          show tSeq _ _ _ [some (.ref a), some (.int limit), some (.ref b), some (.int ((c + 1).fmod ((ns.map V.int).length : Int))), none, none] _
          rw [List.length_map, hat]
          refine ⟨.ref b, rfl, .int at', rfl, b, ns.map V.int, at', .int cell, rfl, rfl, SqL.of (hb2 _), hcell, ?_⟩
          refine ⟨.int cell, rfl, cell, 1000000000000000000, rfl, rfl, _, rfl, ?_⟩
          by_cases hbig : (1000000000000000000 : Int) ≤ cell
          · rw [if_pos hbig] at hv
            cases hv
            rw [decide_eq_true hbig]
            refine iteT ?_
            refine ⟨.int cell, rfl, .int limit, rfl, cell, limit, rfl, rfl, divOk_c hdv, .ref b, rfl, .int at', rfl, b, ns.map V.int, at', at'.toNat, rfl, rfl, hb2 _, by rw [List.length_map]; exact ixN_of m0 (by omega), ?_⟩
            refine ⟨.int cell, rfl, .int limit, rfl, cell, limit, rfl, rfl, ?_, ?_⟩
            · have := divOk_c (i := cell) hdv
              exact this.1
            · have e : (ns.map V.int).set at'.toNat (.int (cell.fdiv limit)) = (ns.set at'.toNat (cell.fdiv limit)).map V.int := by rw [List.map_set]
              obtain ⟨ee, ss⟩ := st.draw (ns' := ns.set at'.toNat (cell.fdiv limit)) (c' := c + 1) (H' := upd (upd H a (.lst [.ref b, .int (c + 1)])) b (.lst ((ns.map V.int).set at'.toNat (.int (cell.fdiv limit))))) hg hw (by rw [upd_ne hab]; exact upd_same) (by rw [e]; exact upd_same) fun x h1 h2 => by rw [upd_ne h2, upd_ne h1]
              exact q _ _ _ ee ss _ (.int _)
          · rw [if_neg hbig] at hv
            cases hv
            rw [decide_eq_false hbig]
            refine iteF ?_
            show tSeq _ _ _ _ _
            refine ⟨.int cell, rfl, .ref a, rfl, a, [.ref b, .int (c + 1)], 1, .int (c + 1), rfl, rfl, SqL.of upd_same, rfl, 104729, c + 1, rfl, rfl, .inl ⟨by decide, by decide⟩, cell, 104729 * (c + 1), rfl, rfl, cell + 104729 * (c + 1), 4294967291, rfl, rfl, (by show (4294967291 : Int) ≠ 0; decide), ?_⟩
            obtain ⟨x0, x1⟩ := fmod_lt (a := cell + 104729 * (c + 1)) (b := 4294967291) (by decide)
            refine ⟨.int _, rfl, (cell + 104729 * (c + 1)).fmod 4294967291, 5, rfl, rfl, ⟨by decide, by decide, ?_⟩, _, 4294967279, rfl, rfl, (by show (4294967279 : Int) ≠ 0; decide), ?_⟩
            · generalize (cell + 104729 * (c + 1)).fmod 4294967291 = z at x0 x1
              have : z.natAbs < 4294967291 := by omega
              exact Nat.lt_trans this (by decide)
            refine ⟨.int _, rfl, _, 64, rfl, rfl, ⟨by decide, by decide⟩, _, 69621, rfl, rfl, .inr ⟨by decide, by decide⟩, .int _, rfl, _, _, rfl, rfl, _, 4294967231, rfl, rfl, (by show (4294967231 : Int) ≠ 0; decide), _, 8, rfl, rfl, ⟨by decide, by decide⟩, .int limit, rfl, _, limit, rfl, rfl, (divOk_c (i := 0) hdv).1, ?_⟩
            obtain ⟨ee, ss⟩ := st.draw (ns' := ns) (c' := c + 1) (H' := upd H a (.lst [.ref b, .int (c + 1)])) hg hw upd_same (hb2 _) fun x h1 h2 => by rw [upd_ne h1]
            exact q _ _ _ ee ss _ (.int _)
end TM

namespace TM
open PySem PySem.Spec PyProof.Rows L2
def t_start (K : PySem.W.Frag) : TS :=
  tRet (tLst (tCons (tIf (tTest (tOp (rNeD K) (tVar 0) (tLst tNil))) (tCB (rListQ K) (tCons (tVar 0) tNil)) (tLst (tCons (tC (.int 0)) tNil))) (tCons (tC (.int 0)) tNil)))
theorem dpAll_ints {K : PySem.W.Frag} {H : Hp} : ∀ ns : List Int, DpAll K H (ns.map V.int) (ns.map PyData.int)
  | [] => .nil
  | n :: ns => .cons (.int n) (dpAll_ints ns)
theorem lay_ints : ∀ ns : List Int, PyData.canLayAll0 (ns.map PyData.int) = true ∧ PyData.depthAll (ns.map PyData.int) = 0
  | [] => ⟨by simp [PyData.canLayAll0], by simp [PyData.depthAll]⟩
  | n :: ns => by
    obtain ⟨h1, h2⟩ := lay_ints ns
    exact ⟨by simp [PyData.canLayAll0, PyData.canLay0, h1], by simp [PyData.depthAll, PyData.depth, h2]⟩
theorem shaped_ints (ns : List Int) : SeqAt.shaped (.list (ns.map PyData.int)) = true := by
  obtain ⟨h1, h2⟩ := lay_ints ns
  unfold SeqAt.shaped
  simp [PyData.canLay0, PyData.depth, h1, h2]
theorem St3.fresh2 {K : PySem.W.Frag} {H H' : Hp} {O : Os} {g : Gh} {w : Wd} {a b : Addr} {ns : List Int} {c : Int} (st : St3 K H O g w) (na : H a = none) (nb : H b = none) (hab : a ≠ b) (ha : H' a = some (.lst [.ref b, .int c])) (hb : H' b = some (.lst (ns.map V.int))) (ho : ∀ x o, H x = some o → H' x = some o) :
    Evo H O g H' (fun x => O x ∨ x = a ∨ x = b) (g ++ [.drw a b]) ∧ St3 K H' (fun x => O x ∨ x = a ∨ x = b) (g ++ [.drw a b]) (w ++ [.drw ns c]) := by
  have wsp : ∀ x, WA (g ++ [.drw a b]) x → WA g x ∨ x = a ∨ x = b := fun x ⟨o, ho, hx⟩ => by
    rcases List.mem_append.mp ho with h | h
    · exact .inl ⟨o, h, hx⟩
    · simp only [List.mem_singleton] at h
      subst h
      simp only [GO.adr, List.mem_cons, List.not_mem_nil, or_false] at hx
      exact .inr hx
  have nO : ∀ x, H x = none → ¬ O x := fun x h z => st.wf.oal x z h
  have nW : ∀ x, H x = none → ¬ WA g x := fun x h z => nO x h (st.wf.wao x z)
  have still : ∀ x, H x ≠ none → H' x ≠ none := fun x h => by
    cases e : H x with
    | none => exact absurd e h
    | some o => rw [ho x o e]; simp
  refine ⟨⟨fun x o h _ => ho x o h, still, fun _ z => .inl z, fun x z => ?_, List.prefix_append _ _, fun x z => ?_⟩, ⟨fun x z => ?_, fun x z => ?_, fun x z vs => ?_⟩, ⟨?_, ?_⟩⟩
  · rcases z with z | z | z
    · exact .inl z
    · exact .inr (by rw [z]; exact na)
    · exact .inr (by rw [z]; exact nb)
  · rcases wsp x z with z | z | z
    · exact .inl z
    · exact .inr (by rw [z]; exact na)
    · exact .inr (by rw [z]; exact nb)
  · rcases wsp x z with z | z
    · exact .inl (st.wf.wao x z)
    · exact .inr z
  · rcases z with z | z | z
    · exact still x (st.wf.oal x z)
    · rw [z, ha]; simp
    · rw [z, hb]; simp
  · rcases z with z | z | z
    · cases e : H x with
      | none => exact absurd z (nO x e)
      | some o =>
        rw [ho x o e]
        have := st.wf.ot x z vs
        rw [e] at this
        exact this
    · rw [z, ha]; intro e; cases e
    · rw [z, hb]; intro e; cases e
  · have key : ∀ {l : Gh} {m : Wd}, Paired (W1 K H) l m → Paired (W1 K H') (l ++ [.drw a b]) (m ++ [.drw ns c]) := by
      intro l m p
      induction p with
      | nil => exact .cons ⟨ha, hb⟩ .nil
      | cons r t ih =>
        refine .cons ?_ ih
        rename_i o y _ _
        cases o with
        | drw p q => cases y with
          | drw ms d => exact ⟨ho _ _ r.1, ho _ _ r.2⟩
          | orc o => exact r.elim
          | scr ms => exact r.elim
        | scr p => cases y with
          | drw ms d => exact r.elim
          | orc o => exact r.elim
          | scr ms => exact r.elim (fun ⟨o, h⟩ => .inl ⟨o, ho _ _ h⟩) .inr
    exact key st.wr.pr
  · rw [List.flatMap_append, List.nodup_append]
    refine ⟨st.wr.nd, by simp [GO.adr, hab], fun x hx y hy e => ?_⟩
    subst e
    have wx : WA g x := by
      obtain ⟨o, h1, h2⟩ := List.mem_flatMap.mp hx
      exact ⟨o, h1, h2⟩
    simp only [List.flatMap_cons, List.flatMap_nil, GO.adr, List.append_nil, List.mem_cons, List.not_mem_nil, or_false] at hy
    rcases hy with z | z
    · exact nW x (by rw [z]; exact na) wx
    · exact nW x (by rw [z]; exact nb) wx
theorem pure_start {K : PySem.W.Frag} {N : List Str} (hN : N.length = 1) (vs : List V) (H : Hp) (Q : VK) (E : XK) (h : spT K startT vs H Q E) : t_start K { nx := fun _ H' => Q .non H', rt := Q } (L2.start N vs) H := by
  obtain ⟨O, g, w, ds, st, r, q⟩ := h
  unfold startT at q
  split at q
  rotate_left
  · exact q.elim
  rename_i k
  split at q
  rotate_left
  · exact q.elim
  rename_i ns hw
  split at q
  rotate_left
  · exact q.elim
  rename_i hc
  obtain ⟨o, hg, ho⟩ := Paired.getR st.wr.pr hw
  cases o with
  | drw a b => exact ho.elim
  | scr a =>
    cases r with
    | cons r1 rt =>
      cases rt
      cases r1 with
      | spc hk =>
        rw [hg] at hk
        cases hk
        have hst : L2.start N [V.ref (GO.scr a).main] = [some (.ref a)] := by
          unfold L2.start
          simp [hN, GO.main]
        rw [hst]
        have sq : ∀ H' : Hp, (∀ o, H a = some o → H' a = some o) → SqL K H' a (ns.map V.int) := fun H' hh => by
          rcases ho with ⟨o, ho⟩ | ho
          · exact .inl (.inr ⟨o, hh _ ho⟩)
          · rcases ho with (ho | ⟨_, ho⟩) | ho
            · cases ho
            · cases ho
            · exact .inr ho
        refine ⟨.ref a, rfl, Nat.zero_le _, fun p hp => ⟨_, _, .lst (sq _ fun o h => ?_) (dpAll_ints ns), .lst (SqL.of upd_same) .nil, shaped_ints ns, rfl, _, rfl, ?_⟩⟩
        · rw [upd_ne (by rintro rfl; rw [hp] at h; cases h)]; exact h
        have fin : ∀ (H1 : Hp) (b : Addr) (ms : List Int), H1 p = some (.lst []) → H1 b = none → b ≠ p → H b = none → (∀ x o, H x = some o → H1 x = some o) → ms = (if ns.isEmpty then [0] else ns) →
            (2 ≤ sizeLine ∧ ∀ c, upd H1 b (.lst (ms.map V.int)) c = none → Q (.ref c) (upd (upd H1 b (.lst (ms.map V.int))) c (.lst [.ref b, .int 0]))) := fun H1 b ms hp1 hb hbp hb0 ho1 e => by
          refine ⟨by decide, fun c hcn => ?_⟩
          have hcb : c ≠ b := by rintro rfl; rw [upd_same] at hcn; cases hcn
          have hc0 : H c = none := by
            cases h0 : H c with
            | none => rfl
            | some o => rw [upd_ne hcb, ho1 _ _ h0] at hcn; cases hcn
          obtain ⟨ee, ss⟩ := st.fresh2 (a := c) (b := b) (ns := ms) (c := 0) (H' := upd (upd H1 b (.lst (ms.map V.int))) c (.lst [.ref b, .int 0])) hc0 hb0 hcb upd_same (by rw [upd_ne (Ne.symm hcb)]; exact upd_same) fun x o hx => by
            rw [upd_ne (by rintro rfl; rw [hc0] at hx; cases hx), upd_ne (by rintro rfl; rw [hb0] at hx; cases hx)]
            exact ho1 _ _ hx
          subst e
          refine q _ _ _ ee ss _ ?_
          have hlen : w.length = g.length := st.wr.pr.length.symm
          show Rep _ _ _ (.ref c) (spc w.length)
          refine Rep.spc (o := .drw c b) ?_
          rw [hlen, List.getElem?_append_right (Nat.le_refl _), Nat.sub_self]
          rfl
        have old : ∀ b, upd H p (.lst []) b = none → b ≠ p ∧ H b = none := fun b hb => by
          have hbp : b ≠ p := by rintro rfl; rw [upd_same] at hb; cases hb
          exact ⟨hbp, by rw [upd_ne hbp] at hb; exact hb⟩
        have oo : ∀ x o, H x = some o → upd H p (.lst []) x = some o := fun x o hx => by
          rw [upd_ne (by rintro rfl; rw [hp] at hx; cases hx)]; exact hx
        cases ns with
        | nil =>
          refine iteF ?_
          exact ⟨by decide, fun b hb => fin _ b [0] upd_same hb (old b hb).1 (old b hb).2 oo rfl⟩
        | cons n ns =>
          refine iteT ?_
          refine ⟨.ref a, rfl, a, _, rfl, .inl (sq _ fun o h => oo _ _ h), fun b hb => ?_⟩
          exact fin _ b (n :: ns) upd_same hb (old b hb).1 (old b hb).2 oo rfl
theorem fun_of {K : PySem.W.Frag} {x : Str} {st : Stmt} {f : Addr} {fd : FuncData} (F : FunD K x x (defArgs st) (defBody st) (defScope st) [] [] f fd) : Fun K x x st f fd := by
  obtain ⟨oc, od, dV, kV, doc, pm, an, cdv, ct, osl, rfl, lk, hcd, hD, hK⟩ := F.ex
  rcases hD with ⟨_, rfl⟩ | ⟨e, _⟩
  · exact ⟨⟨oc, od, kV, doc, pm, an, cdv, ct, osl, rfl, lk, hcd⟩, F.kp⟩
  · exact absurd rfl e
section
variable {P : Program} {w : World} {K : PySem.W.Frag} {mg : Str → Option Value} {base : Heap} {x : Str} {st : Stmt} {f : Addr} {fd : FuncData}
theorem draw_ok {N ps : List Str} {n : Nat} (F : Fun K x x st f fd) (S : FnScope N ps (defScope st)) (h6 : N.length = 6) (hp : ps.length = 2) (hb : ∀ X : Cx, X.calm = true → X.K = K → X.mg = mg → X.N = N → X.env.scope = defScope st → X.A.units + 64 < cLine → PSs X (defBody st) (t_draw X.K)) : FnOk P w K mg base CX0 (n + 1) f fd ps (spT K drawT) := by
  refine F.ok S (fun vs H Q E h => ?_) fun cdv A outer s H vs Q E hr h => ⟨t_draw K, ?_, pure_draw h6 vs H Q E h⟩
  · obtain ⟨O, g, w, ds, st, r, q⟩ := h
    unfold drawT at q
    split at q
    rotate_left
    · exact q.elim
    rw [r.length, hp]; rfl
  · exact hb _ rfl rfl rfl rfl rfl hr.units
theorem start_ok {N ps : List Str} {n : Nat} (F : Fun K x x st f fd) (S : FnScope N ps (defScope st)) (h6 : N.length = 1) (hp : ps.length = 1) (hb : ∀ X : Cx, X.calm = true → X.K = K → X.mg = mg → X.N = N → X.env.scope = defScope st → X.A.units + 64 < cLine → PSs X (defBody st) (t_start X.K)) : FnOk P w K mg base CX0 (n + 1) f fd ps (spT K startT) := by
  refine F.ok S (fun vs H Q E h => ?_) fun cdv A outer s H vs Q E hr h => ⟨t_start K, ?_, pure_start h6 vs H Q E h⟩
  · obtain ⟨O, g, w, ds, st, r, q⟩ := h
    unfold startT at q
    split at q
    rotate_left
    · exact q.elim
    rw [r.length, hp]; rfl
  · exact hb _ rfl rfl rfl rfl rfl hr.units
end
/-- the law's promise from the interpreter's answer -/
theorem law_sp {K : PySem.W.Frag} {T : List D → Wd → R RV} (hT : ∀ ns : List Int, ns.length ≤ 63 → ∃ w', T [spc 0] [.scr ns] = .ok (.val (.bool true)) w') (H : Hp) (a : Addr) (ns : List Int) (hl : ns.length ≤ 63) (hS : (∃ o, H a = some (.frz o (.lst (ns.map V.int)))) ∨ SqL K (fun _ => none) a (ns.map V.int)) (Q : VK) (E : XK) (hQ : ∀ H', Q (.bl true) H') : spT K T [.ref a] H Q E := by
  obtain ⟨w', h⟩ := hT ns hl
  refine ⟨fun _ => False, [.scr a], [.scr ns], [spc 0], ⟨⟨fun x ⟨o, ho, hx⟩ => ?_, fun x z => z.elim, fun x z => z.elim⟩, ⟨.cons hS .nil, by simp [GO.adr]⟩⟩, .cons (.spc (k := 0) (o := .scr a) rfl) .nil, ?_⟩
  · simp only [List.mem_singleton] at ho
    subst ho
    cases hx
  · rw [h]
    intro H' O' g' _ _ v rv
    cases rv
    exact hQ H'
theorem law_sp2 {K : PySem.W.Frag} {T : List D → Wd → R RV} (hT : ∀ ns : List Int, ns.length ≤ 63 → ∃ w', T [spc 0] [.scr ns] = .ok (.val (.bool true)) w') (H : Hp) (a : Addr) (ns : List Int) (hl : ns.length ≤ 63) (hO : Only H) (hS : SqL K H a (ns.map V.int)) : spT K T [.ref a] H (fun v _ => v = .bl true) (fun _ _ _ => False) := by
  refine law_sp hT H a ns hl ?_ _ _ fun _ => rfl
  rcases hS with (h | ⟨o, h⟩) | h
  · rcases hO a with h0 | ⟨o, xs, h0⟩
    · rw [h0] at h; cases h
    · rw [h0] at h; cases h
  · exact .inl ⟨o, h⟩
  · exact .inr (.inr h)
end TM

namespace TM
open PySem PySem.Spec PyProof.Rows L2
/-! ### from the top's facts to the program's table -/
def faC : Str × D → List He.Fa
  | (x, .int i) => [.int x i]
  | (x, .str z) => [.str x z]
  | _ => []
def csOk : Str × D → Bool
  | (_, .int _) => true
  | (_, .str _) => true
  | _ => false
def Pg.fa (pg : Pg) : List He.Fa := pg.fs.map (fun p => .glo p.1) ++ (((bltTab.map (·.1)).filter fun x => (pg.fs.lookup x).isNone) ++ tyNames).map .free ++ pg.cs.flatMap faC
def dfD (p : Str × FD) : He.DefD := ⟨(p.1, none), p.1, p.1, defArgs p.2.st, defBody p.2.st, defScope p.2.st, [], []⟩
def Pg.fn (pg : Pg) : List He.DefD := pg.fs.map dfD
def bndP (x : Str) (fd : FD) : Prop := ∀ (kV doc pm : Value) (an : Option Addr) (cdv ct : Value) (us : List Value), us.length = (fd.N.take fd.np).length → bindArgs (PySem.W.fnOf x x (defArgs fd.st) (defBody fd.st) (defScope fd.st) .none kV doc pm an cdv ct) ⟨us, []⟩ = pure ((fd.N.take fd.np).zip us)
def termP (mgP : (Str → Option Value) → Prop) (fd : FD) (t : PySem.W.Frag → TS) : Prop := ∀ X : Cx, X.calm = true → mgP X.mg → X.N = fd.N → X.env.scope = defScope fd.st → X.A.units + 64 < cLine → PSs X (defBody fd.st) (t X.K)
def fdOk (mgP : (Str → Option Value) → Prop) (fd : FD) : Prop := match fd.kd with
  | .body => (fd.N.take fd.np).length = fd.np ∧ (defBody fd.st).all (chkS exF fd.N (defScope fd.st)) = true
  | .start => fd.N.length = 1 ∧ (fd.N.take fd.np).length = 1 ∧ termP mgP fd t_start
  | .draw => fd.N.length = 6 ∧ (fd.N.take fd.np).length = 2 ∧ termP mgP fd t_draw
structure FdOk (mgP : (Str → Option Value) → Prop) (x : Str) (fd : FD) : Prop where
  b : bndP x fd
  s : FnScope fd.N (fd.N.take fd.np) (defScope fd.st)
  k : fdOk mgP fd
def FdsOk (mgP : (Str → Option Value) → Prop) : List (Str × FD) → Prop
  | [] => True
  | (x, fd) :: r => FdOk mgP x fd ∧ FdsOk mgP r
theorem FdsOk.mem {mgP : (Str → Option Value) → Prop} : ∀ {l : List (Str × FD)} {x : Str} {fd : FD}, FdsOk mgP l → (x, fd) ∈ l → FdOk mgP x fd
  | (y, fe) :: r, x, fd, h, hm => by
    rcases List.mem_cons.mp hm with e | hm
    · cases e; exact h.1
    · exact FdsOk.mem h.2 hm
def mgLL (mg : Str → Option Value) : Prop := mg "len" = none ∧ mg "list" = none
theorem said {fa : List He.Fa} {fn : List He.DefD} {K : PySem.W.Frag} (c : He.SaysD fa fn K) {f : He.Fa} (h : f ∈ fa) : f.ok K = true := by
  obtain ⟨i, hi, e⟩ := List.mem_iff_getElem.mp h
  exact c.fact i (f := f) (by rw [List.getElem?_eq_getElem hi, e])
theorem said_def {fa : List He.Fa} {fn : List He.DefD} {K : PySem.W.Frag} (c : He.SaysD fa fn K) {d : He.DefD} (h : d ∈ fn) : ∃ fd, FunD K d.name d.qual d.params d.body d.scope (d.dvs K) (d.kws K) (He.fAd K d.at_) fd := by
  obtain ⟨i, hi, e⟩ := List.mem_iff_getElem.mp h
  exact c.def_ i (d := d) (by rw [List.getElem?_eq_getElem hi, e])
theorem pg_ok {P : Program} {w : World} {K : PySem.W.Frag} {mg : Str → Option Value} {h : Heap} {pg : Pg} (X : K.In h) (G : h.Ns mainGlobals mg) (c : He.SaysD pg.fa pg.fn K) (hll : (pg.fs.lookup ("len" : Str)).isNone = true ∧ (pg.fs.lookup ("list" : Str)).isNone = true) (hcs : pg.cs.all csOk = true) (hf : FdsOk mgLL pg.fs) : PgOk P w K mg pg := by
  have fr : ∀ x b, pg.fs.lookup x = none → bltTab.lookup x = some b → mg x = none := fun x b h1 h2 => by
    refine He.free_ok X G (said c ?_)
    refine List.mem_append_left _ (List.mem_append_right _ (List.mem_map_of_mem (List.mem_append_left _ (List.mem_filter.mpr ⟨List.mem_map.mpr ⟨_, lookup_mem h2, rfl⟩, ?_⟩))))
    rw [h1]; rfl
  have ml : mgLL mg := ⟨fr "len" .len (Option.isNone_iff_eq_none.mp hll.1) (by decide +kernel), fr "list" .list (Option.isNone_iff_eq_none.mp hll.2) (by decide +kernel)⟩
  refine ⟨fun x fd hx => ?_, fr, fun t ht => ?_, fun x d hd => ?_⟩
  · have hm := lookup_mem hx
    obtain ⟨fdat, FD⟩ := said_def c (d := dfD (x, fd)) (List.mem_map_of_mem hm)
    have g := He.glo_ok X G (said c (f := .glo x) (List.mem_append_left _ (List.mem_append_left _ (List.mem_map.mpr ⟨(x, fd), hm, rfl⟩))))
    have ok := hf.mem hm
    have F : FunD K x x (defArgs fd.st) (defBody fd.st) (defScope fd.st) [] [] (He.fAd K (x, none)) fdat := FD
    refine ⟨⟨_, fdat, fun_of F, g, F.bindsN ok.b, ?_⟩⟩
    have k := ok.k
    unfold fdOk at k
    cases hk : fd.kd with
    | body => rw [hk] at k; exact ⟨ok.s, k.1, k.2⟩
    | start =>
      rw [hk] at k
      exact fun base n => start_ok (fun_of F) ok.s k.1 k.2.1 fun X h1 h2 h3 h4 h5 h6 => k.2.2 X h1 (h3 ▸ ml) h4 h5 h6
    | draw =>
      rw [hk] at k
      exact fun base n => draw_ok (fun_of F) ok.s k.1 k.2.1 fun X h1 h2 h3 h4 h5 h6 => k.2.2 X h1 (h3 ▸ ml) h4 h5 h6
  · exact He.free_ok X G (said c (f := .free t) (List.mem_append_left _ (List.mem_append_right _ (List.mem_map_of_mem (List.mem_append_right _ ht)))))
  · have hm := lookup_mem hd
    have hc := List.all_eq_true.mp hcs _ hm
    have hin : ∀ f ∈ faC (x, d), f.ok K = true := fun f hf => said c (List.mem_append_right _ (List.mem_flatMap.mpr ⟨_, hm, hf⟩))
    cases d with
    | int i =>
      obtain ⟨t, ht⟩ := He.int_ok X G (hin (.int x i) (by simp [faC]))
      exact ⟨.int i, _, ht, ⟨t, rfl⟩, fun _ _ _ => .int i⟩
    | str z =>
      obtain ⟨t, ht⟩ := He.str_ok X G (hin (.str x z) (by simp [faC]))
      exact ⟨.str z, _, ht, ⟨t, rfl⟩, fun _ _ _ => .str z⟩
    | _ => cases hc
theorem law_ok {P : Program} {w : World} {K : PySem.W.Frag} {mg : Str → Option Value} {h : Heap} {pg : Pg} {fa : Addr} {N0 : Nat} {fd : FD} {x p : Str} (X : K.In h) (G : h.Ns mainGlobals mg) (hmg : mg x = some (.ref fa)) (c : He.SaysD pg.fa pg.fn K) (hll : (pg.fs.lookup ("len" : Str)).isNone = true ∧ (pg.fs.lookup ("list" : Str)).isNone = true) (hcs : pg.cs.all csOk = true) (hf : FdsOk mgLL pg.fs)
    (hl : pg.fs.lookup x = some fd) (hp : fd.N.take fd.np = [p]) (hT : ∀ ns : List Int, ns.length ≤ 63 → ∃ w', pg.T N0 x [spc 0] [.scr ns] = .ok (.val (.bool true)) w') :
    ∃ (K : PySem.W.Frag) (fd : FuncData) (sp : Sp), K.In h ∧ (∀ (s : Shared) (u : Value), BindsTo s fd ⟨[u], []⟩ [(p, u)]) ∧
      (∀ (H : Hp) (a : Addr) (ns : List Int), ns.length ≤ 63 → Only H → SqL K H a (ns.map V.int) → sp [.ref a] H (fun v _ => v = .bl true) fun _ _ _ => False) ∧
      ∀ base : Heap, K.In base → base.Ns mainGlobals mg → FnOk P w K mg base CX0 N0 fa fd [p] sp := by
  have hm := lookup_mem hl
  obtain ⟨fdat, FD⟩ := said_def c (d := dfD (x, fd)) (List.mem_map_of_mem hm)
  have F : FunD K x x (defArgs fd.st) (defBody fd.st) (defScope fd.st) [] [] (He.fAd K (x, none)) fdat := FD
  have g := He.glo_ok X G (said c (f := .glo x) (List.mem_append_left _ (List.mem_append_left _ (List.mem_map.mpr ⟨(x, fd), hm, rfl⟩))))
  have ok : PgOk P w K mg pg := pg_ok X G c hll hcs hf
  have b := (hf.mem hm).b
  have bA := FunD.bindsA (ps := fd.N.take fd.np) F b
  rw [hp] at bA
  refine ⟨K, fdat, spT K (pg.T N0 x), X, fun s u => bA s [u] rfl, fun H a ns hl2 hO hS => law_sp2 hT H a ns hl2 hO hS, fun base _ _ => ?_⟩
  obtain ⟨f3, fdat3, F3, m3, _, _, fk⟩ := fn_ok (base := base) ok N0 x fd hl
  have e1 : f3 = fa := by
    rw [hmg] at m3
    cases m3; rfl
  subst e1
  have e2 : He.fAd K (x, none) = f3 := by
    have : some (Value.ref (He.fAd K (x, none))) = some (Value.ref f3) := g.symm.trans hmg
    cases this; rfl
  have e3 : fdat3 = fdat := by
    obtain ⟨_, _, _, _, _, _, _, _, _, _, l3, _⟩ := F3.ex
    obtain ⟨_, _, _, _, _, _, _, _, _, _, l1, _⟩ := (fun_of F).ex
    rw [e2, l3] at l1
    cases l1; rfl
  subst e3
  rw [hp] at fk
  exact fk
end TM
namespace TM
open PySem PySem.Spec PyProof.Rows L2
section
variable {X : Cx} {N : List Str} {sc : Scope}
theorem vN (hN : X.N = N) (hs : X.env.scope = sc) (i : Nat) {x : Str} {pos : Pos} (h1 : N[i]? = some x := by rfl) (h2 : sc.names.lookup x = some .local := by rfl) (hd : (x == ("__debug__" : Str)) = false := by decide) (hcd : (x == ("__classdict__" : Str)) = false := by decide) : PE X (.Name x pos) (tVar i) :=
  pe_var (by rw [hN]; exact h1) (.inl (by rw [hs]; exact h2)) hd hcd
theorem aN (hN : X.N = N) (hs : X.env.scope = sc) (nd : N.Nodup) (i : Nat) {x : Str} {e : Expr} {te : TE} {pos pos' : Pos} (he : PE X e te) (h1 : N[i]? = some x := by rfl) (h2 : sc.names.lookup x = some .local := by rfl) (hw : swapsWith e (some (.Name x pos')) pos.line X.env = pure false := by rfl) : PS X (.Assign [.Name x pos'] e pos) (tAsg te (gName i)) :=
  ps_set (by rw [hN]; exact nd) (by rw [hN]; exact h1) (.inl (by rw [hs]; exact h2)) he hw (.inr (by rw [hs]; exact h2))
theorem glN (hs : X.env.scope = sc) {x : Str} (h : sc.names.lookup x = some .globalImplicit) : Gl X x := by
  unfold Gl Env.kindOf
  rw [hs]
  exact h
end
end TM

namespace TM
open PySem
/-! ### the draws as an oracle: what holds whatever is drawn holds of the script's draws -/
def WP {α : Type} (m : R α) (Q : α → Wd → Prop) (E : Str → Wd → Prop) : Prop := match m with
  | .ok a w => Q a w
  | .exc c w => E c w
  | .bad => False
theorem WP.bind {α β : Type} {m : R α} {f : α → Wd → R β} {Q : β → Wd → Prop} {E : Str → Wd → Prop} : WP (m.bind f) Q E ↔ WP m (fun a w => WP (f a w) Q E) E := by
  cases m <;> exact Iff.rfl
abbrev Orc := Nat → Int → Int
def OkO (o : Orc) : Prop := ∀ i l, 0 < l → 0 ≤ o i l ∧ o i l < l
def Orc.tl (o : Orc) : Orc := fun i => o (i + 1)
def Orc.cons (l v : Int) (o : Orc) : Orc := fun i l' => match i with
  | 0 => if l' = l then v else 0
  | i + 1 => o i l'
theorem okO_cons {l v : Int} {o : Orc} (h : OkO o) (h0 : 0 ≤ v) (h1 : v < l) : OkO (Orc.cons l v o) := by
  intro i l' hl
  cases i with
  | zero =>
    show 0 ≤ (if l' = l then v else 0) ∧ (if l' = l then v else 0) < l'
    split
    · subst l'; exact ⟨h0, h1⟩
    · exact ⟨Int.le_refl _, hl⟩
  | succ i => exact h i l' hl
theorem okO_tl {o : Orc} (h : OkO o) : OkO o.tl := fun i l hl => h (i + 1) l hl
/-- the real world and the oracle's, before and behind the start -/
def ow : Bool → Orc → Wd
  | false, o => [.orc o]
  | true, o => [.orc o, .scr []]
def Gd : Bool → Wd → Prop
  | false, w => ∃ ns, w = [.scr ns] ∧ ns.length ≤ 1000
  | true, w => ∃ ns ms c, w = [.scr ns, .drw ms c] ∧ ms ≠ [] ∧ ms.length ≤ 1000
def Sim {α : Type} (X XO : Wd → R α) : Prop := ∀ (p : Bool) (w : Wd), Gd p w → ∀ (Q QO : α → Wd → Prop) (E EO : Str → Wd → Prop),
  (∀ p w a, Gd p w → (∀ o, OkO o → QO a (ow p o)) → Q a w) → (∀ p w c, Gd p w → (∀ o, OkO o → EO c (ow p o)) → E c w) →
  (∀ o, OkO o → WP (XO (ow p o)) QO EO) → WP (X w) Q E
def o0 : Orc := fun _ _ => 0
theorem ok_o0 : OkO o0 := fun _ _ h => ⟨Int.le_refl _, h⟩
section
variable {α β : Type}
theorem Sim.pure (a : α) : Sim (fun w => .ok a w) (fun w => .ok a w) := fun p w g Q QO E EO hq he h => hq p w a g h
theorem Sim.exc (c : Str) : Sim (α := α) (fun w => .exc c w) (fun w => .exc c w) := fun p w g Q QO E EO hq he h => he p w c g h
theorem Sim.bad : Sim (α := α) (fun _ => .bad) (fun _ => .bad) := fun p w g Q QO E EO hq he h => h o0 ok_o0
theorem Sim.of (o : Option α) : Sim (fun w => R.of o w) (fun w => R.of o w) := by
  cases o with
  | none => exact Sim.bad
  | some a => exact Sim.pure a
theorem Sim.bind {X XO : Wd → R α} {f fO : α → Wd → R β} (hx : Sim X XO) (hf : ∀ a, Sim (f a) (fO a)) : Sim (fun w => (X w).bind f) (fun w => (XO w).bind fO) := by
  intro p w g Q QO E EO hq he h
  refine WP.bind.mpr (hx p w g _ (fun a w => WP (fO a w) QO EO) E EO (fun p w a g h' => hf a p w g Q QO E EO hq he h') he fun o ho => WP.bind.mp (h o ho))
end
abbrev SimE (f fO : EvF) : Prop := ∀ e, Sim (f e) (fO e)
section
variable {f fO : EvF} {G GO : Cn}
theorem sim_evs (h : SimE f fO) : ∀ es, Sim (evsW f es) (evsW fO es)
  | [] => Sim.pure _
  | e :: r => Sim.bind (h e) fun v => Sim.bind (sim_evs h r) fun vs => Sim.pure _
theorem sim_and (h : SimE f fO) : ∀ es, Sim (andW f es) (andW fO es)
  | [] => Sim.bad
  | e :: r => Sim.bind (h e) fun v => by
    split
    · cases r with
      | nil => exact Sim.pure _
      | cons a r => exact sim_and h (a :: r)
    · exact Sim.pure _
    · exact Sim.bad
theorem sim_or (h : SimE f fO) : ∀ es, Sim (orW f es) (orW fO es)
  | [] => Sim.bad
  | e :: r => Sim.bind (h e) fun v => by
    split
    · cases r with
      | nil => exact Sim.pure _
      | cons a r => exact sim_or h (a :: r)
    · exact Sim.pure _
    · exact Sim.bad
theorem sim_opt (h : SimE f fO) : ∀ e, Sim (optW f e) (optW fO e)
  | none => Sim.pure _
  | some e => Sim.bind (h e) fun v => by
    split
    · exact Sim.pure _
    · exact Sim.bad
theorem sim_callT {T TO : Tab} (h : ∀ g vs, Sim (T g vs) (TO g vs)) (g : Str) (vs : List RV) : Sim (callT T g vs) (callT TO g vs) :=
  Sim.bind (h _ _) fun r => by
    split
    · exact Sim.bad
    · exact Sim.pure _
theorem sim_compL {k kO : D → Wd → R (Option D)} (h : ∀ d, Sim (k d) (kO d)) : ∀ ds, Sim (compL k ds) (compL kO ds)
  | [] => Sim.pure _
  | d :: r => Sim.bind (h d) fun o => Sim.bind (sim_compL h r) fun ds => Sim.pure _
theorem sim_cst (c : Const) : Sim (cstW c) (cstW c) := by
  cases c <;> first | exact Sim.pure _ | exact Sim.bad
theorem sim_slot (o : Option (Option RV)) : Sim (slotW o) (slotW o) := by
  unfold slotW
  split <;> first | exact Sim.pure _ | exact Sim.bad
end
/-- the same but for the answers -/
structure SimG (G GO : Cn) : Prop where
  T : ∀ g vs, Sim (G.T g vs) (GO.T g vs)
  dfn : GO.dfn = G.dfn
  cst : GO.cst = G.cst
  N : GO.N = G.N
  mt : GO.mt = G.mt
section
variable {f fO : EvF} {G GO : Cn}
theorem sim_name (g : SimG G GO) (x : Str) (s : Sl) : Sim (nameW G x s) (nameW GO x s) := by
  unfold nameW
  rw [g.N, g.cst]
  split
  · exact sim_slot _
  · exact Sim.of _
theorem sim_bin (h : SimE f fO) (a : Expr) (op : Operator) (b : Expr) : Sim (binW f a op b) (binW fO a op b) := Sim.bind (h a) fun x => Sim.bind (h b) fun y => Sim.of _
theorem sim_un (h : SimE f fO) (op : UnaryOp) (a : Expr) : Sim (unW f op a) (unW fO op a) := Sim.bind (h a) fun x => Sim.of _
theorem sim_bool (h : SimE f fO) (op : BoolOp) (es : List Expr) : Sim (boolW f op es) (boolW fO op es) := by
  cases op
  · exact sim_and h es
  · exact sim_or h es
theorem sim_if (h : SimE f fO) (t a b : Expr) : Sim (ifW f t a b) (ifW fO t a b) := Sim.bind (h t) fun x => by
  split
  · exact Sim.bind (h a) fun y => Sim.of _
  · exact Sim.bind (h b) fun y => Sim.of _
  · exact Sim.bad
theorem sim_cmp (h : SimE f fO) (a : Expr) (ops : List CmpOp) (bs : List Expr) : Sim (cmpW f a ops bs) (cmpW fO a ops bs) := by
  unfold cmpW
  split
  · exact Sim.bind (h _) fun x => Sim.bind (h _) fun y => Sim.of _
  · refine Sim.bind (h _) fun x => Sim.bind (h _) fun y => Sim.bind (Sim.of _) fun z => ?_
    cases z
    · exact Sim.pure _
    · exact Sim.bind (h _) fun u => Sim.of _
  · exact Sim.bad
theorem sim_tup (h : SimE f fO) (es : List Expr) : Sim (tupW f es) (tupW fO es) := Sim.bind (sim_evs h es) fun vs => by
  split
  · split
    · exact Sim.pure _
    · exact Sim.bad
  · exact Sim.bad
theorem sim_lst (h : SimE f fO) (es : List Expr) : Sim (lstW f es) (lstW fO es) := Sim.bind (sim_evs h es) fun vs => by
  split
  · split
    · exact Sim.pure _
    · exact Sim.bad
  · exact Sim.bad
theorem sim_sub (h : SimE f fO) (a b : Expr) : Sim (subW f a b) (subW fO a b) := by
  unfold subW
  split
  · exact Sim.bind (h a) fun x => Sim.bind (sim_opt h _) fun l => Sim.bind (sim_opt h _) fun h => Sim.of _
  · split
    · exact Sim.bind (h a) fun x => Sim.of _
    · exact Sim.bad
  · exact Sim.bad
  · exact Sim.bind (h a) fun x => Sim.bind (h _) fun y => Sim.of _
theorem isRange_eq (g : SimG G GO) (e : Expr) : isRange GO e = isRange G e := by
  unfold isRange
  rw [g.dfn]
theorem sim_blt (g : SimG G GO) (h : SimE f fO) (b : Blt) (args : List Expr) : Sim (bltW G f b args) (bltW GO fO b args) := by
  unfold bltW
  rw [g.N]
  split
  · exact Sim.bad
  · split
    · split
      · exact Sim.bind (h _) fun x => Sim.of _
      · exact Sim.bad
    · exact Sim.bad
  · split
    · rw [isRange_eq g]
      split
      · refine Sim.bind (sim_evs h _) fun vs => ?_
        split
        · exact Sim.bad
        · exact Sim.of _
      · exact Sim.bind (h _) fun x => Sim.of _
    · exact Sim.bad
  · split
    · exact Sim.bad
    · exact Sim.bind (sim_evs h _) fun vs => Sim.of _
theorem sim_call (g : SimG G GO) (h : SimE f fO) (c : Expr) (args : List Expr) (kws : List Keyword) : Sim (callW G f c args kws) (callW GO fO c args kws) := by
  unfold callW
  rw [g.dfn]
  split
  · exact Sim.bad
  · split
    · split
      · exact Sim.bind (sim_evs h _) fun vs => sim_callT g.T _ vs
      · split
        · exact sim_blt g h _ _
        · exact Sim.bad
    · split
      · exact Sim.bind (h _) fun x => Sim.bind (h _) fun y => Sim.of _
      · exact Sim.bad
    · exact Sim.bad
theorem sim_iter (g : SimG G GO) (h : SimE f fO) (b : Bool) (e : Expr) : Sim (iterW b G f e) (iterW b GO fO e) := by
  unfold iterW
  rw [isRange_eq g]
  split
  · exact Sim.bind (sim_evs h _) fun vs => Sim.of _
  · refine Sim.bind (h _) fun x => ?_
    split
    · exact Sim.bad
    · exact Sim.of _
theorem sim_ifs (h : SimE f fO) (ifs : List Expr) : Sim (ifsW f ifs) (ifsW fO ifs) := by
  unfold ifsW
  split
  · exact Sim.pure _
  · exact Sim.bind (h _) fun x => Sim.of _
  · exact Sim.bad
abbrev SimS (f fO : Sl → EvF) : Prop := ∀ s e, Sim (f s e) (fO s e)
variable {k kO : Sl → EvF}
theorem sim_elt (g : SimG G GO) (h : SimS k kO) (elt tg : Expr) (ifs : List Expr) (s : Sl) (d : D) : Sim (eltW G k elt tg ifs s d) (eltW GO kO elt tg ifs s d) := by
  unfold eltW
  rw [g.N]
  split
  · exact Sim.bad
  · refine Sim.bind (sim_ifs (h _) _) fun b => ?_
    cases b
    · exact Sim.pure _
    · exact Sim.bind (h _ _) fun x => Sim.of _
theorem sim_comp (g : SimG G GO) (h : SimS k kO) (elt : Expr) (gens : List Comprehension) (sc : Scope) (s : Sl) : Sim (compW G k elt gens sc s) (compW GO kO elt gens sc s) := by
  unfold compW
  rw [g.N]
  split
  · split
    · refine Sim.bind (sim_iter g (h s) _ _) fun ds => Sim.bind (sim_compL (sim_elt g h elt _ _ _) _) fun ds => ?_
      split
      · exact Sim.pure _
      · exact Sim.bad
    · exact Sim.bad
  · exact Sim.bad
theorem sim_ev (g : SimG G GO) : ∀ (n : Nat) (s : Sl) (e : Expr), Sim (ev n G s e) (ev n GO s e)
  | 0, s, e => Sim.bad
  | n + 1, s, e => by
    have ih := sim_ev g n
    cases e with
    | Constant c _ _ => exact sim_cst c
    | Name x _ => exact sim_name g x s
    | BinOp a op b _ => exact sim_bin (ih s) a op b
    | UnaryOp op a _ => exact sim_un (ih s) op a
    | BoolOp op es _ => exact sim_bool (ih s) op es
    | IfExp t a b _ => exact sim_if (ih s) t a b
    | Compare a ops bs _ => exact sim_cmp (ih s) a ops bs
    | Tuple es _ _ => exact sim_tup (ih s) es
    | List es _ => exact sim_lst (ih s) es
    | Subscript a b _ => exact sim_sub (ih s) a b
    | Call c args kws _ => exact sim_call g (ih s) c args kws
    | ListComp elt gens sc _ => exact sim_comp g ih elt gens sc s
    | _ => exact Sim.bad
theorem sim_stT (g : SimG G GO) (h : SimS k kO) (t : Expr) (d : D) (s : Sl) : Sim (stT G k t d s) (stT GO kO t d s) := by
  unfold stT
  rw [g.N]
  split
  · split
    · exact Sim.pure _
    · exact Sim.bad
  · split
    · exact Sim.bad
    · split
      · split
        · refine Sim.bind (h _ _) fun y => ?_
          split
          · split
            · exact Sim.pure _
            · exact Sim.bad
          · exact Sim.bad
        · exact Sim.bad
      · exact Sim.bad
  · exact Sim.bad
theorem sim_stTs (g : SimG G GO) (h : SimS k kO) : ∀ (ts : List Expr) (ds : List D) (s : Sl), Sim (stTs G k ts ds s) (stTs GO kO ts ds s)
  | [], ds, s => by
    cases ds
    · exact Sim.pure _
    · exact Sim.bad
  | t :: ts, ds, s => by
    cases ds
    · exact Sim.bad
    · exact Sim.bind (sim_stT g h _ _ _) fun s => sim_stTs g h ts _ s
theorem isOwn_eq (g : SimG G GO) (e : Expr) (s : Sl) : isOwn GO e s = isOwn G e s := by
  unfold isOwn
  rw [g.N]
theorem sim_asgN (g : SimG G GO) (i : Nat) (x : Str) (v : RV) (s : Sl) : Sim (asgN G i x v s) (asgN GO i x v s) := by
  unfold asgN
  rw [g.mt]
  split
  · exact Sim.pure _
  · split
    · exact Sim.pure _
    · exact Sim.pure _
  · exact Sim.bad
theorem sim_asg (g : SimG G GO) (h : SimS k kO) (t e : Expr) (s : Sl) : Sim (asgW G k t e s) (asgW GO kO t e s) := by
  unfold asgW
  rw [g.N, isOwn_eq g]
  split
  · split
    · exact Sim.bad
    · split
      · exact Sim.pure _
      · exact Sim.bind (h _ _) fun v => sim_asgN g _ _ v s
  · refine Sim.bind (h _ _) fun v => ?_
    split
    · exact sim_stTs g h _ _ _
    · exact Sim.bad
  · refine Sim.bind (h _ _) fun v => ?_
    split
    · exact sim_stT g h _ _ _
    · exact Sim.bad
theorem sim_aug (g : SimG G GO) (h : SimS k kO) (t : Expr) (op : Operator) (e : Expr) (s : Sl) : Sim (augW G k t op e s) (augW GO kO t op e s) := by
  unfold augW
  rw [g.N]
  split
  · split
    · split
      · refine Sim.bind (h _ _) fun v => ?_
        split
        · exact Sim.pure _
        · exact Sim.bad
      · exact Sim.bad
    · exact Sim.bad
  · exact Sim.bad
theorem sim_mut (g : SimG G GO) (h : SimS k kO) (x m : Str) (a : Expr) (s : Sl) : Sim (mutW G k x m a s) (mutW GO kO x m a s) := by
  unfold mutW
  rw [g.N]
  split
  · split
    · refine Sim.bind (h _ _) fun v => ?_
      split
      · split
        · exact Sim.pure _
        · exact Sim.bad
      · exact Sim.bad
    · exact Sim.bad
  · exact Sim.bad
theorem sim_expr (g : SimG G GO) (h : SimS k kO) (e : Expr) (s : Sl) : Sim (exprW G k e s) (exprW GO kO e s) := by
  unfold exprW
  split
  · exact sim_mut g h _ _ _ _
  · exact Sim.bind (h _ _) fun _ => Sim.pure _
theorem frzN_eq (g : SimG G GO) (e : Expr) (s : Sl) : frzN GO e s = frzN G e s := by
  unfold frzN
  rw [g.N]
theorem sim_execs {F FO : Stmt → Sl → Wd → R Out} (h : ∀ st s, Sim (F st s) (FO st s)) : ∀ (b : List Stmt) (s : Sl), Sim (execs F b s) (execs FO b s)
  | [], s => Sim.pure _
  | st :: r, s => Sim.bind (h st s) fun o => by
    cases o with
    | nxt s => exact sim_execs h r s
    | _ => exact Sim.pure _
theorem sim_for {F FO : D → Sl → Wd → R Out} (h : ∀ d s, Sim (F d s) (FO d s)) : ∀ (ds : List D) (s : Sl), Sim (forL F ds s) (forL FO ds s)
  | [], s => Sim.pure _
  | d :: r, s => Sim.bind (h d s) fun o => by
    cases o with
    | nxt s => exact sim_for h r s
    | cnt s => exact sim_for h r s
    | _ => exact Sim.pure _
theorem sim_whl {C CO : Sl → Wd → R Bool} {F FO : Sl → Wd → R Out} (hc : ∀ s, Sim (C s) (CO s)) (h : ∀ s, Sim (F s) (FO s)) : ∀ (n : Nat) (s : Sl), Sim (whlL C F n s) (whlL CO FO n s)
  | 0, s => Sim.bad
  | n + 1, s => Sim.bind (hc s) fun b => by
    cases b with
    | false => exact Sim.pure _
    | true =>
      refine Sim.bind (h s) fun o => ?_
      cases o with
      | nxt s => exact sim_whl hc h n s
      | cnt s => exact sim_whl hc h n s
      | _ => exact Sim.pure _
theorem sim_ret (g : SimG G GO) (h : SimE f fO) (e : Expr) (s : Sl) : Sim (retW G f e s) (retW GO fO e s) := by
  unfold retW
  rw [isOwn_eq g]
  split
  · exact Sim.pure _
  · refine Sim.bind (h _) fun v => ?_
    split
    · exact Sim.bad
    · exact Sim.pure _
theorem sim_tst (h : SimE f fO) (c : Expr) : Sim (tstW f c) (tstW fO c) := Sim.bind (h c) fun x => Sim.of _
theorem sim_whlT {C CO : Sl → Wd → R Bool} {F FO : Sl → Wd → R Out} (hc : ∀ s, Sim (C s) (CO s)) (h : ∀ s, Sim (F s) (FO s)) {m : Nat} (s : Sl) : Sim (whlL C F m s) (whlL CO FO m s) := sim_whl hc h m s
theorem sim_exw {n : Nat} {c : Expr} {body : List Stmt} {pos : Pos} {s : Sl} (ie : SimS (ev evF G) (ev evF GO)) (ih : ∀ st s, Sim (ex n G st s) (ex n GO st s)) : Sim (ex (n + 1) G (.While c body [] pos) s) (ex (n + 1) GO (.While c body [] pos) s) := by
  have e1 : ∀ (H : Cn) (w : Wd), ex (n + 1) H (.While c body [] pos) s w = whlL (fun s w => tstW (ev evF H s) c w) (fun s w => execs (ex n H) body s w) turns s w := fun H w => rfl
  have e : ∀ H : Cn, ex (n + 1) H (.While c body [] pos) s = whlL (fun s w => tstW (ev evF H s) c w) (fun s w => execs (ex n H) body s w) turns s := fun H => funext (e1 H)
  rw [e, e]
  exact sim_whlT (fun s => sim_tst (ie s) c) (fun s => sim_execs ih body s) s
theorem sim_ex (g : SimG G GO) : ∀ (n : Nat) (st : Stmt) (s : Sl), Sim (ex n G st s) (ex n GO st s)
  := by
  intro n
  induction n with
  | zero => exact fun st s => Sim.bad
  | succ n ih =>
    intro st s
    have ie : SimS (ev evF G) (ev evF GO) := sim_ev g evF
    cases st with
    | Assign ts e _ =>
      match ts with
      | [t] => exact Sim.bind (sim_asg g ie t e s) fun s => Sim.pure _
      | [] => exact Sim.bad
      | _ :: _ :: _ => exact Sim.bad
    | AugAssign t op e _ => exact Sim.bind (sim_aug g ie t op e s) fun s => Sim.pure _
    | If c a b _ =>
      refine Sim.bind (sim_tst (ie s) c) fun x => ?_
      cases x
      · exact sim_execs ih b s
      · exact sim_execs ih a s
    | For tg iter body orelse _ =>
      cases orelse with
      | cons a r => exact Sim.bad
      | nil =>
        show Sim (fun w => (iterW false G (ev evF G (frzN G iter s)) iter w).bind _) (fun w => (iterW false GO (ev evF GO (frzN GO iter s)) iter w).bind _)
        rw [frzN_eq g]
        refine Sim.bind (sim_iter g (ie _) _ _) fun ds => sim_for (fun d s => ?_) ds _
        rw [g.N]
        split
        · exact sim_execs ih body _
        · exact Sim.bad
    | While c body orelse pos =>
      cases orelse with
      | cons a r => exact Sim.bad
      | nil =>
        exact sim_exw ie ih
    | Return e _ =>
      cases e with
      | none => exact Sim.pure _
      | some e => exact sim_ret g (ie s) e s
    | Expr e _ => exact Sim.bind (sim_expr g ie e s) fun s => Sim.pure _
    | Pass _ => exact Sim.pure _
    | Break _ => exact Sim.pure _
    | Continue _ => exact Sim.pure _
    | _ => exact Sim.bad
theorem sim_outV {X XO : Wd → R Out} (h : Sim X XO) : Sim (fun w => outV (X w)) (fun w => outV (XO w)) := Sim.bind h fun o => by
  cases o with
  | ret v => exact Sim.pure _
  | nxt s => exact Sim.pure _
  | _ => exact Sim.bad
end
/-- the start and a draw by the oracle -/
def startO (vs : List D) (w : Wd) : R RV := match vs, w with
  | [.dict [(.int (.ofNat 0), .none)]], [.orc o] => .ok (.val (spc 1)) [.orc o, .scr []]
  | _, _ => .bad
def drawO (vs : List D) (w : Wd) : R RV := match vs with
  | [.dict [(.int (.ofNat 1), .none)], .int limit] => (match w with
    | [.orc o, .scr []] => if decide (0 < limit) && divOk limit then .ok (.val (.int (o 0 limit))) [.orc (Orc.tl o), .scr []] else .bad
    | _ => .bad)
  | _ => .bad
def Pg.TO (P : Pg) : Nat → Tab
  | 0, _, _, _ => .bad
  | n + 1, f, vs, w => match P.fs.lookup f with
    | none => .bad
    | some fd => if vs.length = fd.np then (match fd.kd with
      | .start => startO vs w
      | .draw => drawO vs w
      | .body => outV (execs (ex exF ⟨P.TO n, fun x => (P.fs.lookup x).isSome, fun x => P.cs.lookup x, fd.N, fd.mt⟩) (L2.defBody fd.st) (slotsOf fd.N vs) w)) else .bad
theorem sim_start (vs : List D) : Sim (startT vs) (startO vs) := by
  intro p w g Q QO E EO hq he h
  have h0 := h o0 ok_o0
  unfold startO at h0
  split at h0
  · rename_i o hw
    cases p with
    | true => cases hw
    | false =>
      obtain ⟨ns, rfl, hl⟩ := g
      have e : startT [.dict [(.int (.ofNat 0), .none)]] [.scr ns] = .ok (.val (spc 1)) [.scr ns, .drw (if ns.isEmpty then [0] else ns) 0] := by
        show (if ns.length ≤ 1000 then R.ok (RV.val (spc 1)) [.scr ns, .drw (if ns.isEmpty then [0] else ns) 0] else .bad) = _
        rw [if_pos hl]
      rw [e]
      refine hq true _ _ ⟨ns, _, 0, rfl, ?_, ?_⟩ fun o ho => h o ho
      · cases ns <;> simp
      · cases ns with
        | nil => decide
        | cons a r => exact hl
  · exact h0.elim
theorem drawV_ok {ms : List Int} {c l : Int} (hm : ms ≠ []) (hl : 0 < l) : ∃ v ms', drawV ms c l = some (v, ms') ∧ 0 ≤ v ∧ v < l ∧ ms'.length = ms.length := by
  have hp : (0 : Int) < ms.length := by
    cases ms with
    | nil => exact absurd rfl hm
    | cons _ _ => simp
  have m0 := Int.fmod_nonneg_of_pos c hp
  have m1 := Int.fmod_lt_of_pos c hp
  unfold drawV
  have hlt : (c.fmod ms.length).toNat < ms.length := by omega
  rw [List.getElem?_eq_getElem hlt]
  dsimp only
  split
  · exact ⟨_, _, rfl, Int.fmod_nonneg_of_pos _ hl, Int.fmod_lt_of_pos _ hl, by simp⟩
  · exact ⟨_, _, rfl, Int.fmod_nonneg_of_pos _ hl, Int.fmod_lt_of_pos _ hl, rfl⟩
theorem sim_draw (vs : List D) : Sim (drawT vs) (drawO vs) := by
  intro p w g Q QO E EO hq he h
  have h0 := h o0 ok_o0
  unfold drawO at h0
  split at h0
  rotate_left
  · exact h0.elim
  rename_i limit
  cases p with
  | false => exact h0.elim
  | true =>
    obtain ⟨ns, ms, c, rfl, hm, hl⟩ := g
    have h0 : WP (if decide (0 < limit) && divOk limit then R.ok (.val (.int (o0 0 limit))) [.orc (Orc.tl o0), .scr []] else .bad) QO EO := h0
    split at h0
    rotate_left
    · exact h0.elim
    rename_i hc
    have hc' := hc
    simp only [Bool.and_eq_true, decide_eq_true_eq] at hc
    obtain ⟨v, ms', e, v0, v1, ml⟩ := drawV_ok (c := c + 1) hm hc.1
    have e2 : drawT [.dict [(.int (.ofNat 1), .none)], .int limit] [.scr ns, .drw ms c] = .ok (.val (.int v)) [.scr ns, .drw ms' (c + 1)] := by
      have he : ms.isEmpty = false := by cases ms; exact absurd rfl hm; rfl
      show (if divOk limit && !ms.isEmpty && decide (ms.length ≤ 1000) then (match drawV ms (c + 1) limit with
        | some (v, ns') => R.ok (RV.val (.int v)) [.scr ns, .drw ns' (c + 1)]
        | none => .bad) else .bad) = _
      rw [e, he, hc.2, decide_eq_true hl]
      rfl
    rw [e2]
    refine hq true _ _ ⟨ns, ms', c + 1, rfl, fun z => ?_, by omega⟩ fun o ho => ?_
    · rw [z] at ml
      cases ms with
      | nil => exact hm rfl
      | cons _ _ => cases ml
    · have := h (Orc.cons limit v o) (okO_cons ho v0 v1)
      have e3 : drawO [.dict [(.int (.ofNat 1), .none)], .int limit] (ow true (Orc.cons limit v o)) = .ok (.val (.int v)) [.orc o, .scr []] := by
        show (if decide (0 < limit) && divOk limit then R.ok (RV.val (.int (if limit = limit then v else 0))) [.orc o, .scr []] else .bad) = _
        rw [if_pos hc', if_pos rfl]
      rw [e3] at this
      exact this
theorem T_none {P : Pg} {n : Nat} {x : Str} {vs : List D} (hx : P.fs.lookup x = none) : P.T (n + 1) x vs = fun _ => .bad := by
  funext w
  show (match P.fs.lookup x with
    | none => R.bad
    | some fd => _) = _
  rw [hx]
theorem TO_none {P : Pg} {n : Nat} {x : Str} {vs : List D} (hx : P.fs.lookup x = none) : P.TO (n + 1) x vs = fun _ => .bad := by
  funext w
  show (match P.fs.lookup x with
    | none => R.bad
    | some fd => _) = _
  rw [hx]
theorem T_some {P : Pg} {n : Nat} {x : Str} {vs : List D} {fd : FD} (hx : P.fs.lookup x = some fd) : P.T (n + 1) x vs = fun w => if vs.length = fd.np then (match fd.kd with
      | .start => startT vs w
      | .draw => drawT vs w
      | .body => outV (execs (ex exF ⟨P.T n, fun x => (P.fs.lookup x).isSome, fun x => P.cs.lookup x, fd.N, fd.mt⟩) (L2.defBody fd.st) (slotsOf fd.N vs) w)) else .bad := by
  funext w
  show (match P.fs.lookup x with
    | none => R.bad
    | some fd => _) = _
  rw [hx]
  try rfl
theorem TO_some {P : Pg} {n : Nat} {x : Str} {vs : List D} {fd : FD} (hx : P.fs.lookup x = some fd) : P.TO (n + 1) x vs = fun w => if vs.length = fd.np then (match fd.kd with
      | .start => startO vs w
      | .draw => drawO vs w
      | .body => outV (execs (ex exF ⟨P.TO n, fun x => (P.fs.lookup x).isSome, fun x => P.cs.lookup x, fd.N, fd.mt⟩) (L2.defBody fd.st) (slotsOf fd.N vs) w)) else .bad := by
  funext w
  show (match P.fs.lookup x with
    | none => R.bad
    | some fd => _) = _
  rw [hx]
  try rfl
theorem sim_body {G GO : Cn} (g : SimG G GO) (b : List Stmt) (s : Sl) : Sim (fun w => outV (execs (ex exF G) b s w)) (fun w => outV (execs (ex exF GO) b s w)) := sim_outV (X := execs (ex exF G) b s) (XO := execs (ex exF GO) b s) (sim_execs (fun st s => sim_ex g exF st s) b s)
theorem sim_T (P : Pg) : ∀ (n : Nat) (x : Str) (vs : List D), Sim (P.T n x vs) (P.TO n x vs) := by
  intro n
  induction n with
  | zero => exact fun _ _ => Sim.bad
  | succ n ih =>
    intro x vs
    cases hx : P.fs.lookup x with
    | none =>
      rw [T_none hx, TO_none hx]
      exact Sim.bad
    | some fd =>
      rw [T_some hx, TO_some hx]
      by_cases hl : vs.length = fd.np
      · simp only [if_pos hl]
        cases hk : fd.kd with
        | start => exact sim_start vs
        | draw => exact sim_draw vs
        | body => exact sim_body (G := ⟨P.T n, fun x => (P.fs.lookup x).isSome, fun x => P.cs.lookup x, fd.N, fd.mt⟩) (GO := ⟨P.TO n, fun x => (P.fs.lookup x).isSome, fun x => P.cs.lookup x, fd.N, fd.mt⟩) ⟨ih, rfl, rfl, rfl, rfl⟩ _ _
      · simp only [if_neg hl]
        exact Sim.bad
/-- THE END: whatever the oracle says -/
theorem law_of {P : Pg} {n : Nat} {x : Str} (h : ∀ o, OkO o → ∃ w', P.TO n x [spc 0] [.orc o] = .ok (.val (.bool true)) w') (ns : List Int) (hl : ns.length ≤ 63) : ∃ w', P.T n x [spc 0] [.scr ns] = .ok (.val (.bool true)) w' := by
  have := sim_T P n x [spc 0] false [.scr ns] ⟨ns, rfl, by omega⟩ (fun a _ => a = .val (.bool true)) (fun a _ => a = .val (.bool true)) (fun _ _ => False) (fun _ _ => False) (fun _ _ _ _ h => h o0 ok_o0) (fun _ _ _ _ h => h o0 ok_o0) fun o ho => by
    obtain ⟨w', e⟩ := h o ho
    show WP (P.TO n x [spc 0] [.orc o]) _ _
    rw [e]
    rfl
  cases e : P.T n x [spc 0] [.scr ns] with
  | ok a w => rw [e] at this; exact ⟨w, by rw [show a = _ from this]⟩
  | exc c w => rw [e] at this; exact this.elim
  | bad => rw [e] at this; exact this.elim
end TM
namespace TM
def Orc.upd (o : Orc) (i : Nat) (l v : Int) : Orc := fun j m => if j = i ∧ m = l then v else o j m
theorem Orc.upd_self (o : Orc) (i : Nat) (l : Int) : Orc.upd o i l (o i l) = o := by
  funext j m
  unfold Orc.upd
  split
  · rename_i h; rw [h.1, h.2]
  · rfl
end TM

namespace Row
open PySem TM
def top (i : Nat) : Stmt := PySem.Challenge.pw_trimmedmeans_k20_whole_sizes.main.body.getD i (.Pass ⟨0, 0, 0, 0⟩)
def d_is_int : FD := ⟨.body, 3, ["value", "low", "high"], [], top 5⟩
def d_check_size : FD := ⟨.body, 1, ["value"], [], top 6⟩
def d_is_rule : FD := ⟨.body, 2, ["value", "size"], [], top 7⟩
def d_check_rule : FD := ⟨.body, 2, ["rule", "size"], [], top 8⟩
def d_rules_for : FD := ⟨.body, 1, ["size", "found", "number"], ["found"], top 10⟩
def d_half_borne : FD := ⟨.body, 1, ["count"], [], top 12⟩
def d_bears_of : FD := ⟨.body, 2, ["rule", "size", "wrong", "whole", "name", "number"], ["wrong"], top 13⟩
def d_bears : FD := ⟨.body, 2, ["rule", "size"], [], top 14⟩
def d_best_rules : FD := ⟨.body, 1, ["size", "found", "most", "rule"], [], top 15⟩
def d_rules_that_bear : FD := ⟨.body, 2, ["size", "wrong", "rule"], [], top 16⟩
def d_plain : FD := ⟨.body, 2, ["rule", "size", "middle", "name", "number"], [], top 18⟩
def d_are_alike : FD := ⟨.body, 3, ["one", "other", "size"], [], top 19⟩
def d_law_start : FD := ⟨.start, 1, ["script"], [], top 21⟩
def d_law_draw : FD := ⟨.draw, 2, ["draws", "limit", "numbers", "at", "cell", "mixed"], ["draws", "numbers"], top 22⟩
def d_law_pick : FD := ⟨.body, 2, ["draws", "choices"], [], top 23⟩
def d_law_rules : FD := ⟨.body, 1, ["size", "found", "g", "b"], [], top 24⟩
def d_law_bears : FD := ⟨.body, 2, ["rule", "size", "whole", "good", "name", "g", "m"], [], top 25⟩
def d_law : FD := ⟨.body, 1, ["script", "draws", "size", "rules", "most", "rule", "turn", "wrong", "told", "m", "other"], [], top 26⟩
def pg : Pg := ⟨[(("is_int" : Str), d_is_int), (("check_size" : Str), d_check_size), (("is_rule" : Str), d_is_rule), (("check_rule" : Str), d_check_rule), (("rules_for" : Str), d_rules_for), (("half_borne" : Str), d_half_borne), (("bears_of" : Str), d_bears_of), (("bears" : Str), d_bears), (("best_rules" : Str), d_best_rules), (("rules_that_bear" : Str), d_rules_that_bear), (("plain" : Str), d_plain), (("are_alike" : Str), d_are_alike), (("_law_start" : Str), d_law_start), (("_law_draw" : Str), d_law_draw), (("_law_pick" : Str), d_law_pick), (("_law_rules" : Str), d_law_rules), (("_law_bears" : Str), d_law_bears), (("law" : Str), d_law)], [(("MOST_DATA" : Str), .int 9)]⟩
end Row
namespace Row
open PySem PySem.Spec PyProof.Rows L2 TM
theorem sc_is_int : FnScope d_is_int.N (d_is_int.N.take d_is_int.np) (defScope d_is_int.st) := ⟨rfl, rfl, rfl, by decide +kernel, rfl, by decide +kernel, by decide +kernel⟩
theorem bd_is_int : bndP "is_int" d_is_int := fun _ _ _ _ _ _ us hl => match us, hl with | [_, _, _], _ => rfl
theorem ok_is_int : FdOk mgLL "is_int" d_is_int := ⟨bd_is_int, sc_is_int, rfl, by decide +kernel⟩
theorem sc_check_size : FnScope d_check_size.N (d_check_size.N.take d_check_size.np) (defScope d_check_size.st) := ⟨rfl, rfl, rfl, by decide +kernel, rfl, by decide +kernel, by decide +kernel⟩
theorem bd_check_size : bndP "check_size" d_check_size := fun _ _ _ _ _ _ us hl => match us, hl with | [_], _ => rfl
theorem ok_check_size : FdOk mgLL "check_size" d_check_size := ⟨bd_check_size, sc_check_size, rfl, by decide +kernel⟩
theorem sc_is_rule : FnScope d_is_rule.N (d_is_rule.N.take d_is_rule.np) (defScope d_is_rule.st) := ⟨rfl, rfl, rfl, by decide +kernel, rfl, by decide +kernel, by decide +kernel⟩
theorem bd_is_rule : bndP "is_rule" d_is_rule := fun _ _ _ _ _ _ us hl => match us, hl with | [_, _], _ => rfl
theorem ok_is_rule : FdOk mgLL "is_rule" d_is_rule := ⟨bd_is_rule, sc_is_rule, rfl, by decide +kernel⟩
theorem sc_check_rule : FnScope d_check_rule.N (d_check_rule.N.take d_check_rule.np) (defScope d_check_rule.st) := ⟨rfl, rfl, rfl, by decide +kernel, rfl, by decide +kernel, by decide +kernel⟩
theorem bd_check_rule : bndP "check_rule" d_check_rule := fun _ _ _ _ _ _ us hl => match us, hl with | [_, _], _ => rfl
theorem ok_check_rule : FdOk mgLL "check_rule" d_check_rule := ⟨bd_check_rule, sc_check_rule, rfl, by decide +kernel⟩
theorem sc_rules_for : FnScope d_rules_for.N (d_rules_for.N.take d_rules_for.np) (defScope d_rules_for.st) := ⟨rfl, rfl, rfl, by decide +kernel, rfl, by decide +kernel, by decide +kernel⟩
theorem bd_rules_for : bndP "rules_for" d_rules_for := fun _ _ _ _ _ _ us hl => match us, hl with | [_], _ => rfl
theorem ok_rules_for : FdOk mgLL "rules_for" d_rules_for := ⟨bd_rules_for, sc_rules_for, rfl, by decide +kernel⟩
theorem sc_half_borne : FnScope d_half_borne.N (d_half_borne.N.take d_half_borne.np) (defScope d_half_borne.st) := ⟨rfl, rfl, rfl, by decide +kernel, rfl, by decide +kernel, by decide +kernel⟩
theorem bd_half_borne : bndP "half_borne" d_half_borne := fun _ _ _ _ _ _ us hl => match us, hl with | [_], _ => rfl
theorem ok_half_borne : FdOk mgLL "half_borne" d_half_borne := ⟨bd_half_borne, sc_half_borne, rfl, by decide +kernel⟩
theorem sc_bears_of : FnScope d_bears_of.N (d_bears_of.N.take d_bears_of.np) (defScope d_bears_of.st) := ⟨rfl, rfl, rfl, by decide +kernel, rfl, by decide +kernel, by decide +kernel⟩
theorem bd_bears_of : bndP "bears_of" d_bears_of := fun _ _ _ _ _ _ us hl => match us, hl with | [_, _], _ => rfl
theorem ok_bears_of : FdOk mgLL "bears_of" d_bears_of := ⟨bd_bears_of, sc_bears_of, rfl, by decide +kernel⟩
theorem sc_bears : FnScope d_bears.N (d_bears.N.take d_bears.np) (defScope d_bears.st) := ⟨rfl, rfl, rfl, by decide +kernel, rfl, by decide +kernel, by decide +kernel⟩
theorem bd_bears : bndP "bears" d_bears := fun _ _ _ _ _ _ us hl => match us, hl with | [_, _], _ => rfl
theorem ok_bears : FdOk mgLL "bears" d_bears := ⟨bd_bears, sc_bears, rfl, by decide +kernel⟩
theorem sc_best_rules : FnScope d_best_rules.N (d_best_rules.N.take d_best_rules.np) (defScope d_best_rules.st) := ⟨rfl, rfl, rfl, by decide +kernel, rfl, by decide +kernel, by decide +kernel⟩
theorem bd_best_rules : bndP "best_rules" d_best_rules := fun _ _ _ _ _ _ us hl => match us, hl with | [_], _ => rfl
theorem ok_best_rules : FdOk mgLL "best_rules" d_best_rules := ⟨bd_best_rules, sc_best_rules, rfl, by decide +kernel⟩
theorem sc_rules_that_bear : FnScope d_rules_that_bear.N (d_rules_that_bear.N.take d_rules_that_bear.np) (defScope d_rules_that_bear.st) := ⟨rfl, rfl, rfl, by decide +kernel, rfl, by decide +kernel, by decide +kernel⟩
theorem bd_rules_that_bear : bndP "rules_that_bear" d_rules_that_bear := fun _ _ _ _ _ _ us hl => match us, hl with | [_, _], _ => rfl
theorem ok_rules_that_bear : FdOk mgLL "rules_that_bear" d_rules_that_bear := ⟨bd_rules_that_bear, sc_rules_that_bear, rfl, by decide +kernel⟩
theorem sc_plain : FnScope d_plain.N (d_plain.N.take d_plain.np) (defScope d_plain.st) := ⟨rfl, rfl, rfl, by decide +kernel, rfl, by decide +kernel, by decide +kernel⟩
theorem bd_plain : bndP "plain" d_plain := fun _ _ _ _ _ _ us hl => match us, hl with | [_, _], _ => rfl
theorem ok_plain : FdOk mgLL "plain" d_plain := ⟨bd_plain, sc_plain, rfl, by decide +kernel⟩
theorem sc_are_alike : FnScope d_are_alike.N (d_are_alike.N.take d_are_alike.np) (defScope d_are_alike.st) := ⟨rfl, rfl, rfl, by decide +kernel, rfl, by decide +kernel, by decide +kernel⟩
theorem bd_are_alike : bndP "are_alike" d_are_alike := fun _ _ _ _ _ _ us hl => match us, hl with | [_, _, _], _ => rfl
theorem ok_are_alike : FdOk mgLL "are_alike" d_are_alike := ⟨bd_are_alike, sc_are_alike, rfl, by decide +kernel⟩
theorem sc_law_start : FnScope d_law_start.N (d_law_start.N.take d_law_start.np) (defScope d_law_start.st) := ⟨rfl, rfl, rfl, by decide +kernel, rfl, by decide +kernel, by decide +kernel⟩
theorem bd_law_start : bndP "_law_start" d_law_start := fun _ _ _ _ _ _ us hl => match us, hl with | [_], _ => rfl
theorem tm_law_start : termP mgLL d_law_start t_start := fun X hc hm hN hs hu =>
  pss_one (ps_ret (pe_lst (pa_cons (pe_ifExp (pt_cmpR (op_neD hu) (vN hN hs 0) (pe_lst pa_nil) (nomark _)) (pe_callTy call_list_of (glN hs rfl) hm.2 boot_list (pa_cons (vN hN hs 0) pa_nil)) (pe_lst (pa_cons pe_int pa_nil))) (pa_cons pe_int pa_nil))))
theorem ok_law_start : FdOk mgLL "_law_start" d_law_start := ⟨bd_law_start, sc_law_start, rfl, rfl, tm_law_start⟩
theorem sc_law_draw : FnScope d_law_draw.N (d_law_draw.N.take d_law_draw.np) (defScope d_law_draw.st) := ⟨rfl, rfl, rfl, by decide +kernel, rfl, by decide +kernel, by decide +kernel⟩
theorem bd_law_draw : bndP "_law_draw" d_law_draw := fun _ _ _ _ _ _ us hl => match us, hl with | [_, _], _ => rfl
theorem tm_law_draw : termP mgLL d_law_draw t_draw := fun X hc hm hN hs hu =>
  have nd : d_law_draw.N.Nodup := by decide +kernel
  pss_cons (aN hN hs nd 2 (pe_ix ix_list (vN hN hs 0) pe_int (fun _ _ => rfl)))
  (pss_cons (ps_asg (pe_op op_add (pe_ix ix_list (vN hN hs 0) pe_int (fun _ _ => rfl)) pe_int) (pg_sub (vN hN hs 0) pe_int set_list (fun _ => rfl)))
  (pss_cons (aN hN hs nd 3 (pe_op op_modN (pe_ix ix_list (vN hN hs 0) pe_int (fun _ _ => rfl)) (pe_callB call_len_seq (glN hs rfl) hm.1 boot_len (pa_cons (vN hN hs 2) pa_nil))))
  (pss_cons (aN hN hs nd 4 (pe_ix ix_list (vN hN hs 2) (vN hN hs 3) (fun _ _ => rfl)))
  (pss_cons (ps_if (pt_cmpR op_ge (vN hN hs 4) pe_int (nomark _))
    (pss_cons (ps_asg (pe_op op_fdivN (vN hN hs 4) (vN hN hs 1)) (pg_sub (vN hN hs 2) (vN hN hs 3) set_list (fun _ => rfl))) (pss_one (ps_ret (pe_op op_modN (vN hN hs 4) (vN hN hs 1))))) pss_nil)
  (pss_cons (aN hN hs nd 5 (pe_op op_modN (pe_op op_add (vN hN hs 4) (pe_op op_mul pe_int (pe_ix ix_list (vN hN hs 0) pe_int (fun _ _ => rfl)))) pe_int))
  (pss_cons (aN hN hs nd 5 (pe_op op_modN (pe_op op_pow (vN hN hs 5) pe_int) pe_int))
  (pss_one (ps_ret (pe_op op_modN (pe_op op_fdivN (pe_op op_modN (pe_op op_add (pe_op op_mul (pe_op op_fdivN (vN hN hs 5) pe_int) pe_int) (vN hN hs 5)) pe_int) pe_int) (vN hN hs 1))))))))))
theorem ok_law_draw : FdOk mgLL "_law_draw" d_law_draw := ⟨bd_law_draw, sc_law_draw, rfl, rfl, tm_law_draw⟩
theorem sc_law_pick : FnScope d_law_pick.N (d_law_pick.N.take d_law_pick.np) (defScope d_law_pick.st) := ⟨rfl, rfl, rfl, by decide +kernel, rfl, by decide +kernel, by decide +kernel⟩
theorem bd_law_pick : bndP "_law_pick" d_law_pick := fun _ _ _ _ _ _ us hl => match us, hl with | [_, _], _ => rfl
theorem ok_law_pick : FdOk mgLL "_law_pick" d_law_pick := ⟨bd_law_pick, sc_law_pick, rfl, by decide +kernel⟩
theorem sc_law_rules : FnScope d_law_rules.N (d_law_rules.N.take d_law_rules.np) (defScope d_law_rules.st) := ⟨rfl, rfl, rfl, by decide +kernel, rfl, by decide +kernel, by decide +kernel⟩
theorem bd_law_rules : bndP "_law_rules" d_law_rules := fun _ _ _ _ _ _ us hl => match us, hl with | [_], _ => rfl
theorem ok_law_rules : FdOk mgLL "_law_rules" d_law_rules := ⟨bd_law_rules, sc_law_rules, rfl, by decide +kernel⟩
theorem sc_law_bears : FnScope d_law_bears.N (d_law_bears.N.take d_law_bears.np) (defScope d_law_bears.st) := ⟨rfl, rfl, rfl, by decide +kernel, rfl, by decide +kernel, by decide +kernel⟩
theorem bd_law_bears : bndP "_law_bears" d_law_bears := fun _ _ _ _ _ _ us hl => match us, hl with | [_, _], _ => rfl
theorem ok_law_bears : FdOk mgLL "_law_bears" d_law_bears := ⟨bd_law_bears, sc_law_bears, rfl, by decide +kernel⟩
theorem sc_law : FnScope d_law.N (d_law.N.take d_law.np) (defScope d_law.st) := ⟨rfl, rfl, rfl, by decide +kernel, rfl, by decide +kernel, by decide +kernel⟩
theorem bd_law : bndP "law" d_law := fun _ _ _ _ _ _ us hl => match us, hl with | [_], _ => rfl
theorem ok_law : FdOk mgLL "law" d_law := ⟨bd_law, sc_law, rfl, by decide +kernel⟩
theorem oks : FdsOk mgLL pg.fs := ⟨ok_is_int, ok_check_size, ok_is_rule, ok_check_rule, ok_rules_for, ok_half_borne, ok_bears_of, ok_bears, ok_best_rules, ok_rules_that_bear, ok_plain, ok_are_alike, ok_law_start, ok_law_draw, ok_law_pick, ok_law_rules, ok_law_bears, ok_law, trivial⟩
end Row
namespace Row
open PySem TM
theorem execs_app {f : Stmt → Sl → Wd → R Out} : ∀ {a b : List Stmt} {s : Sl} {w : Wd} {s' : Sl} {w' : Wd}, execs f a s w = .ok (.nxt s') w' → execs f (a ++ b) s w = execs f b s' w'
  | [], b, s, w, s', w', h => by cases h; rfl
  | st :: r, b, s, w, s', w', h => by
    have h : (f st s w).bind (fun o w => match o with | .nxt s => execs f r s w | o => .ok o w) = .ok (.nxt s') w' := h
    show (f st s w).bind (fun o w => match o with | .nxt s => execs f (r ++ b) s w | o => .ok o w) = _
    cases hm : f st s w with
    | bad => rw [hm] at h; cases h
    | exc c w1 => rw [hm] at h; cases h
    | ok o w1 =>
      rw [hm] at h
      cases o with
      | nxt s1 => exact execs_app (b := b) h
      | ret v => cases h
      | brk v => cases h
      | cnt v => cases h
abbrev G : Cn := ⟨pg.TO 39, fun x => (pg.fs.lookup x).isSome, fun x => pg.cs.lookup x, d_law.N, d_law.mt⟩
def B : List Stmt := L2.defBody d_law.st
def st8 : Stmt := B.getD 8 (.Pass ⟨0, 0, 0, 0⟩)
def forB : Stmt → List Stmt
  | .For _ _ b _ _ => b
  | _ => []
def forT : Stmt → Expr
  | .For t _ _ _ _ => t
  | _ => .Constant .none 0 ⟨0, 0, 0, 0⟩
def Fb (d : D) (s : Sl) (w : Wd) : R Out := match tgt d_law.N (forT st8) d s with
  | some s => execs (ex 11 G) (forB st8) s w
  | none => .bad
abbrev V (d : D) : Option RV := some (.val d)
abbrev rs0 : List D := [.tuple [.str "trimmed", .int 0], .tuple [.str "winsorized", .int 0], .tuple [.str "pairs", .int 0], .tuple [.str "groups", .int 1]]
abbrev S0 (x5 x6 x7 x8 x9 x10 : Option RV) : Sl := [V (spc 0), V (spc 1), V (.int 1), V (.list rs0), V (.int 0), x5, x6, x7, x8, x9, x10]
theorem pre0 (o : Orc) : execs (ex exF G) (B.take 8) [V (spc 0), none, none, none, none, none, none, none, none, none, none] [.orc (Orc.upd o 0 9 0)] = .ok (.nxt (S0 (V (.tuple [.str "groups", .int 1])) none none none (V (.int 0)) none)) [.orc (Orc.tl (Orc.upd o 0 9 0)), .scr []] := by kernel_rfl
theorem lp0 (x5 x6 x7 x8 x9 x10 : Option RV) (w : Wd) : ex exF G st8 (S0 x5 x6 x7 x8 x9 x10) w = forL Fb [.int 0, .int 1] (S0 x5 x6 x7 x8 x9 x10) w := by kernel_rfl
theorem pr0_0 (t : D) (x5 x6 x7 x8 x9 x10 : Option RV) (o : Orc) : (Fb t (S0 x5 x6 x7 x8 x9 x10) [.orc (Orc.upd (Orc.upd o 1 4 0) 0 4 0), .scr []] = .ok (.nxt (S0 (V (.tuple [.str "trimmed", .int 0])) (V t) x7 x8 x9 (V (.tuple [.str "trimmed", .int 0])))) [.orc (Orc.tl (Orc.tl (Orc.upd (Orc.upd o 1 4 0) 0 4 0))), .scr []]) ∧ (Fb t (S0 x5 x6 x7 x8 x9 x10) [.orc (Orc.upd (Orc.upd o 1 4 1) 0 4 0), .scr []] = .ok (.nxt (S0 (V (.tuple [.str "trimmed", .int 0])) (V t) x7 x8 x9 (V (.tuple [.str "winsorized", .int 0])))) [.orc (Orc.tl (Orc.tl (Orc.upd (Orc.upd o 1 4 1) 0 4 0))), .scr []]) ∧ (Fb t (S0 x5 x6 x7 x8 x9 x10) [.orc (Orc.upd (Orc.upd o 1 4 2) 0 4 0), .scr []] = .ok (.nxt (S0 (V (.tuple [.str "trimmed", .int 0])) (V t) x7 x8 x9 (V (.tuple [.str "pairs", .int 0])))) [.orc (Orc.tl (Orc.tl (Orc.upd (Orc.upd o 1 4 2) 0 4 0))), .scr []]) ∧ (Fb t (S0 x5 x6 x7 x8 x9 x10) [.orc (Orc.upd (Orc.upd o 1 4 3) 0 4 0), .scr []] = .ok (.nxt (S0 (V (.tuple [.str "trimmed", .int 0])) (V t) x7 x8 x9 (V (.tuple [.str "groups", .int 1])))) [.orc (Orc.tl (Orc.tl (Orc.upd (Orc.upd o 1 4 3) 0 4 0))), .scr []]) := ⟨by kernel_rfl, by kernel_rfl, by kernel_rfl, by kernel_rfl⟩
theorem pr0_1 (t : D) (x5 x6 x7 x8 x9 x10 : Option RV) (o : Orc) : (Fb t (S0 x5 x6 x7 x8 x9 x10) [.orc (Orc.upd (Orc.upd o 1 4 0) 0 4 1), .scr []] = .ok (.nxt (S0 (V (.tuple [.str "winsorized", .int 0])) (V t) x7 x8 x9 (V (.tuple [.str "trimmed", .int 0])))) [.orc (Orc.tl (Orc.tl (Orc.upd (Orc.upd o 1 4 0) 0 4 1))), .scr []]) ∧ (Fb t (S0 x5 x6 x7 x8 x9 x10) [.orc (Orc.upd (Orc.upd o 1 4 1) 0 4 1), .scr []] = .ok (.nxt (S0 (V (.tuple [.str "winsorized", .int 0])) (V t) x7 x8 x9 (V (.tuple [.str "winsorized", .int 0])))) [.orc (Orc.tl (Orc.tl (Orc.upd (Orc.upd o 1 4 1) 0 4 1))), .scr []]) ∧ (Fb t (S0 x5 x6 x7 x8 x9 x10) [.orc (Orc.upd (Orc.upd o 1 4 2) 0 4 1), .scr []] = .ok (.nxt (S0 (V (.tuple [.str "winsorized", .int 0])) (V t) x7 x8 x9 (V (.tuple [.str "pairs", .int 0])))) [.orc (Orc.tl (Orc.tl (Orc.upd (Orc.upd o 1 4 2) 0 4 1))), .scr []]) ∧ (Fb t (S0 x5 x6 x7 x8 x9 x10) [.orc (Orc.upd (Orc.upd o 1 4 3) 0 4 1), .scr []] = .ok (.nxt (S0 (V (.tuple [.str "winsorized", .int 0])) (V t) x7 x8 x9 (V (.tuple [.str "groups", .int 1])))) [.orc (Orc.tl (Orc.tl (Orc.upd (Orc.upd o 1 4 3) 0 4 1))), .scr []]) := ⟨by kernel_rfl, by kernel_rfl, by kernel_rfl, by kernel_rfl⟩
theorem pr0_2 (t : D) (x5 x6 x7 x8 x9 x10 : Option RV) (o : Orc) : (Fb t (S0 x5 x6 x7 x8 x9 x10) [.orc (Orc.upd (Orc.upd o 1 4 0) 0 4 2), .scr []] = .ok (.nxt (S0 (V (.tuple [.str "pairs", .int 0])) (V t) x7 x8 x9 (V (.tuple [.str "trimmed", .int 0])))) [.orc (Orc.tl (Orc.tl (Orc.upd (Orc.upd o 1 4 0) 0 4 2))), .scr []]) ∧ (Fb t (S0 x5 x6 x7 x8 x9 x10) [.orc (Orc.upd (Orc.upd o 1 4 1) 0 4 2), .scr []] = .ok (.nxt (S0 (V (.tuple [.str "pairs", .int 0])) (V t) x7 x8 x9 (V (.tuple [.str "winsorized", .int 0])))) [.orc (Orc.tl (Orc.tl (Orc.upd (Orc.upd o 1 4 1) 0 4 2))), .scr []]) ∧ (Fb t (S0 x5 x6 x7 x8 x9 x10) [.orc (Orc.upd (Orc.upd o 1 4 2) 0 4 2), .scr []] = .ok (.nxt (S0 (V (.tuple [.str "pairs", .int 0])) (V t) x7 x8 x9 (V (.tuple [.str "pairs", .int 0])))) [.orc (Orc.tl (Orc.tl (Orc.upd (Orc.upd o 1 4 2) 0 4 2))), .scr []]) ∧ (Fb t (S0 x5 x6 x7 x8 x9 x10) [.orc (Orc.upd (Orc.upd o 1 4 3) 0 4 2), .scr []] = .ok (.nxt (S0 (V (.tuple [.str "pairs", .int 0])) (V t) x7 x8 x9 (V (.tuple [.str "groups", .int 1])))) [.orc (Orc.tl (Orc.tl (Orc.upd (Orc.upd o 1 4 3) 0 4 2))), .scr []]) := ⟨by kernel_rfl, by kernel_rfl, by kernel_rfl, by kernel_rfl⟩
theorem pr0_3 (t : D) (x5 x6 x7 x8 x9 x10 : Option RV) (o : Orc) : (Fb t (S0 x5 x6 x7 x8 x9 x10) [.orc (Orc.upd (Orc.upd o 1 4 0) 0 4 3), .scr []] = .ok (.nxt (S0 (V (.tuple [.str "groups", .int 1])) (V t) x7 x8 x9 (V (.tuple [.str "trimmed", .int 0])))) [.orc (Orc.tl (Orc.tl (Orc.upd (Orc.upd o 1 4 0) 0 4 3))), .scr []]) ∧ (Fb t (S0 x5 x6 x7 x8 x9 x10) [.orc (Orc.upd (Orc.upd o 1 4 1) 0 4 3), .scr []] = .ok (.nxt (S0 (V (.tuple [.str "groups", .int 1])) (V t) x7 x8 x9 (V (.tuple [.str "winsorized", .int 0])))) [.orc (Orc.tl (Orc.tl (Orc.upd (Orc.upd o 1 4 1) 0 4 3))), .scr []]) ∧ (Fb t (S0 x5 x6 x7 x8 x9 x10) [.orc (Orc.upd (Orc.upd o 1 4 2) 0 4 3), .scr []] = .ok (.nxt (S0 (V (.tuple [.str "groups", .int 1])) (V t) x7 x8 x9 (V (.tuple [.str "pairs", .int 0])))) [.orc (Orc.tl (Orc.tl (Orc.upd (Orc.upd o 1 4 2) 0 4 3))), .scr []]) ∧ (Fb t (S0 x5 x6 x7 x8 x9 x10) [.orc (Orc.upd (Orc.upd o 1 4 3) 0 4 3), .scr []] = .ok (.nxt (S0 (V (.tuple [.str "groups", .int 1])) (V t) x7 x8 x9 (V (.tuple [.str "groups", .int 1])))) [.orc (Orc.tl (Orc.tl (Orc.upd (Orc.upd o 1 4 3) 0 4 3))), .scr []]) := ⟨by kernel_rfl, by kernel_rfl, by kernel_rfl, by kernel_rfl⟩
theorem pr0 (t : D) (x5 x6 x7 x8 x9 x10 : Option RV) (o : Orc) (ho : OkO o) : ∃ y5 y10, Fb t (S0 x5 x6 x7 x8 x9 x10) [.orc o, .scr []] = .ok (.nxt (S0 y5 (V t) x7 x8 x9 y10)) [.orc (Orc.tl (Orc.tl o)), .scr []] := by
  have h0 := ho 0 4 (by decide)
  have h1 := ho 1 4 (by decide)
  have e := Orc.upd_self o 1 4
  have e2 := Orc.upd_self o 0 4
  generalize o 0 4 = a at h0 e2
  generalize o 1 4 = b at h1 e
  have ea : a = 0 ∨ a = 1 ∨ a = 2 ∨ a = 3 := by omega
  have eb : b = 0 ∨ b = 1 ∨ b = 2 ∨ b = 3 := by omega
  rcases ea with rfl | rfl | rfl | rfl
  · obtain ⟨k0, k1, k2, k3⟩ := pr0_0 t x5 x6 x7 x8 x9 x10 o
    rcases eb with rfl | rfl | rfl | rfl
    · rw [e, e2] at k0; exact ⟨_, _, k0⟩
    · rw [e, e2] at k1; exact ⟨_, _, k1⟩
    · rw [e, e2] at k2; exact ⟨_, _, k2⟩
    · rw [e, e2] at k3; exact ⟨_, _, k3⟩
  · obtain ⟨k0, k1, k2, k3⟩ := pr0_1 t x5 x6 x7 x8 x9 x10 o
    rcases eb with rfl | rfl | rfl | rfl
    · rw [e, e2] at k0; exact ⟨_, _, k0⟩
    · rw [e, e2] at k1; exact ⟨_, _, k1⟩
    · rw [e, e2] at k2; exact ⟨_, _, k2⟩
    · rw [e, e2] at k3; exact ⟨_, _, k3⟩
  · obtain ⟨k0, k1, k2, k3⟩ := pr0_2 t x5 x6 x7 x8 x9 x10 o
    rcases eb with rfl | rfl | rfl | rfl
    · rw [e, e2] at k0; exact ⟨_, _, k0⟩
    · rw [e, e2] at k1; exact ⟨_, _, k1⟩
    · rw [e, e2] at k2; exact ⟨_, _, k2⟩
    · rw [e, e2] at k3; exact ⟨_, _, k3⟩
  · obtain ⟨k0, k1, k2, k3⟩ := pr0_3 t x5 x6 x7 x8 x9 x10 o
    rcases eb with rfl | rfl | rfl | rfl
    · rw [e, e2] at k0; exact ⟨_, _, k0⟩
    · rw [e, e2] at k1; exact ⟨_, _, k1⟩
    · rw [e, e2] at k2; exact ⟨_, _, k2⟩
    · rw [e, e2] at k3; exact ⟨_, _, k3⟩
theorem sfs0 (x5 x6 x9 x10 : Option RV) (o : Orc) : (execs (ex exF G) (B.drop 9) (S0 x5 x6 none none x9 x10) [.orc (Orc.upd o 0 2 0), .scr []] = .ok (.ret (.val (.bool true))) [.orc (Orc.tl (Orc.upd o 0 2 0)), .scr []]) ∧ (execs (ex exF G) (B.drop 9) (S0 x5 x6 none none x9 x10) [.orc (Orc.upd o 0 2 1), .scr []] = .ok (.ret (.val (.bool true))) [.orc (Orc.tl (Orc.upd o 0 2 1)), .scr []]) := ⟨by kernel_rfl, by kernel_rfl⟩
theorem sf0 (x5 x6 x9 x10 : Option RV) (o : Orc) (ho : OkO o) : execs (ex exF G) (B.drop 9) (S0 x5 x6 none none x9 x10) [.orc o, .scr []] = .ok (.ret (.val (.bool true))) [.orc (Orc.tl o), .scr []] := by
  have h0 := ho 0 2 (by decide)
  have e := Orc.upd_self o 0 2
  generalize o 0 2 = a at h0 e
  have ea : a = 0 ∨ a = 1 := by omega
  obtain ⟨k0, k1⟩ := sfs0 x5 x6 x9 x10 o
  rcases ea with rfl | rfl
  · rw [e] at k0; exact k0
  · rw [e] at k1; exact k1
theorem all0 (o : Orc) (ho : OkO o) (h : o 0 9 = 0) : ∃ w', execs (ex exF G) B [V (spc 0), none, none, none, none, none, none, none, none, none, none] [.orc o] = .ok (.ret (.val (.bool true))) w' := by
  have e0 := Orc.upd_self o 0 9
  rw [h] at e0
  have p := pre0 o
  rw [e0] at p
  have eB : B = B.take 8 ++ (st8 :: B.drop 9) := rfl
  obtain ⟨a5, a10, q1⟩ := pr0 (.int 0) (V (.tuple [.str "groups", .int 1])) none none none (V (.int 0)) none (Orc.tl o) (okO_tl ho)
  obtain ⟨b5, b10, q2⟩ := pr0 (.int 1) a5 (V (.int 0)) none none (V (.int 0)) a10 (Orc.tl (Orc.tl (Orc.tl o))) (okO_tl (okO_tl (okO_tl ho)))
  have hl : ex exF G st8 (S0 (V (.tuple [.str "groups", .int 1])) none none none (V (.int 0)) none) [.orc (Orc.tl o), .scr []] = .ok (.nxt (S0 b5 (V (.int 1)) none none (V (.int 0)) b10)) [.orc (Orc.tl (Orc.tl (Orc.tl (Orc.tl (Orc.tl o))))), .scr []] := by
    rw [lp0]
    show (Fb (.int 0) _ _).bind _ = _
    rw [q1]
    show (Fb (.int 1) _ _).bind _ = _
    rw [q2]
    rfl
  have z := sf0 b5 (V (.int 1)) (V (.int 0)) b10 _ (okO_tl (okO_tl (okO_tl (okO_tl (okO_tl ho)))))
  have k := execs_app (b := st8 :: B.drop 9) p
  rw [← eB] at k
  refine ⟨[.orc (Orc.tl (Orc.tl (Orc.tl (Orc.tl (Orc.tl (Orc.tl o)))))), .scr []], k.trans ?_⟩
  show (ex exF G st8 _ _).bind _ = _
  rw [hl]
  exact z
abbrev rs1 : List D := [.tuple [.str "trimmed", .int 0], .tuple [.str "winsorized", .int 0], .tuple [.str "pairs", .int 0], .tuple [.str "groups", .int 1], .tuple [.str "groups", .int 2]]
abbrev S1 (x5 x6 x7 x8 x9 x10 : Option RV) : Sl := [V (spc 0), V (spc 1), V (.int 2), V (.list rs1), V (.int 0), x5, x6, x7, x8, x9, x10]
theorem pre1 (o : Orc) : execs (ex exF G) (B.take 8) [V (spc 0), none, none, none, none, none, none, none, none, none, none] [.orc (Orc.upd o 0 9 1)] = .ok (.nxt (S1 (V (.tuple [.str "groups", .int 2])) none none none (V (.int 0)) none)) [.orc (Orc.tl (Orc.upd o 0 9 1)), .scr []] := by kernel_rfl
theorem lp1 (x5 x6 x7 x8 x9 x10 : Option RV) (w : Wd) : ex exF G st8 (S1 x5 x6 x7 x8 x9 x10) w = forL Fb [.int 0, .int 1] (S1 x5 x6 x7 x8 x9 x10) w := by kernel_rfl
theorem pr1_0 (t : D) (x5 x6 x7 x8 x9 x10 : Option RV) (o : Orc) : (Fb t (S1 x5 x6 x7 x8 x9 x10) [.orc (Orc.upd (Orc.upd o 1 5 0) 0 5 0), .scr []] = .ok (.nxt (S1 (V (.tuple [.str "trimmed", .int 0])) (V t) x7 x8 x9 (V (.tuple [.str "trimmed", .int 0])))) [.orc (Orc.tl (Orc.tl (Orc.upd (Orc.upd o 1 5 0) 0 5 0))), .scr []]) ∧ (Fb t (S1 x5 x6 x7 x8 x9 x10) [.orc (Orc.upd (Orc.upd o 1 5 1) 0 5 0), .scr []] = .ok (.nxt (S1 (V (.tuple [.str "trimmed", .int 0])) (V t) x7 x8 x9 (V (.tuple [.str "winsorized", .int 0])))) [.orc (Orc.tl (Orc.tl (Orc.upd (Orc.upd o 1 5 1) 0 5 0))), .scr []]) ∧ (Fb t (S1 x5 x6 x7 x8 x9 x10) [.orc (Orc.upd (Orc.upd o 1 5 2) 0 5 0), .scr []] = .ok (.nxt (S1 (V (.tuple [.str "trimmed", .int 0])) (V t) x7 x8 x9 (V (.tuple [.str "pairs", .int 0])))) [.orc (Orc.tl (Orc.tl (Orc.upd (Orc.upd o 1 5 2) 0 5 0))), .scr []]) ∧ (Fb t (S1 x5 x6 x7 x8 x9 x10) [.orc (Orc.upd (Orc.upd o 1 5 3) 0 5 0), .scr []] = .ok (.nxt (S1 (V (.tuple [.str "trimmed", .int 0])) (V t) x7 x8 x9 (V (.tuple [.str "groups", .int 1])))) [.orc (Orc.tl (Orc.tl (Orc.upd (Orc.upd o 1 5 3) 0 5 0))), .scr []]) ∧ (Fb t (S1 x5 x6 x7 x8 x9 x10) [.orc (Orc.upd (Orc.upd o 1 5 4) 0 5 0), .scr []] = .ok (.nxt (S1 (V (.tuple [.str "trimmed", .int 0])) (V t) x7 x8 x9 (V (.tuple [.str "groups", .int 2])))) [.orc (Orc.tl (Orc.tl (Orc.upd (Orc.upd o 1 5 4) 0 5 0))), .scr []]) := ⟨by kernel_rfl, by kernel_rfl, by kernel_rfl, by kernel_rfl, by kernel_rfl⟩
theorem pr1_1 (t : D) (x5 x6 x7 x8 x9 x10 : Option RV) (o : Orc) : (Fb t (S1 x5 x6 x7 x8 x9 x10) [.orc (Orc.upd (Orc.upd o 1 5 0) 0 5 1), .scr []] = .ok (.nxt (S1 (V (.tuple [.str "winsorized", .int 0])) (V t) x7 x8 x9 (V (.tuple [.str "trimmed", .int 0])))) [.orc (Orc.tl (Orc.tl (Orc.upd (Orc.upd o 1 5 0) 0 5 1))), .scr []]) ∧ (Fb t (S1 x5 x6 x7 x8 x9 x10) [.orc (Orc.upd (Orc.upd o 1 5 1) 0 5 1), .scr []] = .ok (.nxt (S1 (V (.tuple [.str "winsorized", .int 0])) (V t) x7 x8 x9 (V (.tuple [.str "winsorized", .int 0])))) [.orc (Orc.tl (Orc.tl (Orc.upd (Orc.upd o 1 5 1) 0 5 1))), .scr []]) ∧ (Fb t (S1 x5 x6 x7 x8 x9 x10) [.orc (Orc.upd (Orc.upd o 1 5 2) 0 5 1), .scr []] = .ok (.nxt (S1 (V (.tuple [.str "winsorized", .int 0])) (V t) x7 x8 x9 (V (.tuple [.str "pairs", .int 0])))) [.orc (Orc.tl (Orc.tl (Orc.upd (Orc.upd o 1 5 2) 0 5 1))), .scr []]) ∧ (Fb t (S1 x5 x6 x7 x8 x9 x10) [.orc (Orc.upd (Orc.upd o 1 5 3) 0 5 1), .scr []] = .ok (.nxt (S1 (V (.tuple [.str "winsorized", .int 0])) (V t) x7 x8 x9 (V (.tuple [.str "groups", .int 1])))) [.orc (Orc.tl (Orc.tl (Orc.upd (Orc.upd o 1 5 3) 0 5 1))), .scr []]) ∧ (Fb t (S1 x5 x6 x7 x8 x9 x10) [.orc (Orc.upd (Orc.upd o 1 5 4) 0 5 1), .scr []] = .ok (.nxt (S1 (V (.tuple [.str "winsorized", .int 0])) (V t) x7 x8 x9 (V (.tuple [.str "groups", .int 2])))) [.orc (Orc.tl (Orc.tl (Orc.upd (Orc.upd o 1 5 4) 0 5 1))), .scr []]) := ⟨by kernel_rfl, by kernel_rfl, by kernel_rfl, by kernel_rfl, by kernel_rfl⟩
theorem pr1_2 (t : D) (x5 x6 x7 x8 x9 x10 : Option RV) (o : Orc) : (Fb t (S1 x5 x6 x7 x8 x9 x10) [.orc (Orc.upd (Orc.upd o 1 5 0) 0 5 2), .scr []] = .ok (.nxt (S1 (V (.tuple [.str "pairs", .int 0])) (V t) x7 x8 x9 (V (.tuple [.str "trimmed", .int 0])))) [.orc (Orc.tl (Orc.tl (Orc.upd (Orc.upd o 1 5 0) 0 5 2))), .scr []]) ∧ (Fb t (S1 x5 x6 x7 x8 x9 x10) [.orc (Orc.upd (Orc.upd o 1 5 1) 0 5 2), .scr []] = .ok (.nxt (S1 (V (.tuple [.str "pairs", .int 0])) (V t) x7 x8 x9 (V (.tuple [.str "winsorized", .int 0])))) [.orc (Orc.tl (Orc.tl (Orc.upd (Orc.upd o 1 5 1) 0 5 2))), .scr []]) ∧ (Fb t (S1 x5 x6 x7 x8 x9 x10) [.orc (Orc.upd (Orc.upd o 1 5 2) 0 5 2), .scr []] = .ok (.nxt (S1 (V (.tuple [.str "pairs", .int 0])) (V t) x7 x8 x9 (V (.tuple [.str "pairs", .int 0])))) [.orc (Orc.tl (Orc.tl (Orc.upd (Orc.upd o 1 5 2) 0 5 2))), .scr []]) ∧ (Fb t (S1 x5 x6 x7 x8 x9 x10) [.orc (Orc.upd (Orc.upd o 1 5 3) 0 5 2), .scr []] = .ok (.nxt (S1 (V (.tuple [.str "pairs", .int 0])) (V t) x7 x8 x9 (V (.tuple [.str "groups", .int 1])))) [.orc (Orc.tl (Orc.tl (Orc.upd (Orc.upd o 1 5 3) 0 5 2))), .scr []]) ∧ (Fb t (S1 x5 x6 x7 x8 x9 x10) [.orc (Orc.upd (Orc.upd o 1 5 4) 0 5 2), .scr []] = .ok (.nxt (S1 (V (.tuple [.str "pairs", .int 0])) (V t) x7 x8 x9 (V (.tuple [.str "groups", .int 2])))) [.orc (Orc.tl (Orc.tl (Orc.upd (Orc.upd o 1 5 4) 0 5 2))), .scr []]) := ⟨by kernel_rfl, by kernel_rfl, by kernel_rfl, by kernel_rfl, by kernel_rfl⟩
theorem pr1_3 (t : D) (x5 x6 x7 x8 x9 x10 : Option RV) (o : Orc) : (Fb t (S1 x5 x6 x7 x8 x9 x10) [.orc (Orc.upd (Orc.upd o 1 5 0) 0 5 3), .scr []] = .ok (.nxt (S1 (V (.tuple [.str "groups", .int 1])) (V t) x7 x8 x9 (V (.tuple [.str "trimmed", .int 0])))) [.orc (Orc.tl (Orc.tl (Orc.upd (Orc.upd o 1 5 0) 0 5 3))), .scr []]) ∧ (Fb t (S1 x5 x6 x7 x8 x9 x10) [.orc (Orc.upd (Orc.upd o 1 5 1) 0 5 3), .scr []] = .ok (.nxt (S1 (V (.tuple [.str "groups", .int 1])) (V t) x7 x8 x9 (V (.tuple [.str "winsorized", .int 0])))) [.orc (Orc.tl (Orc.tl (Orc.upd (Orc.upd o 1 5 1) 0 5 3))), .scr []]) ∧ (Fb t (S1 x5 x6 x7 x8 x9 x10) [.orc (Orc.upd (Orc.upd o 1 5 2) 0 5 3), .scr []] = .ok (.nxt (S1 (V (.tuple [.str "groups", .int 1])) (V t) x7 x8 x9 (V (.tuple [.str "pairs", .int 0])))) [.orc (Orc.tl (Orc.tl (Orc.upd (Orc.upd o 1 5 2) 0 5 3))), .scr []]) ∧ (Fb t (S1 x5 x6 x7 x8 x9 x10) [.orc (Orc.upd (Orc.upd o 1 5 3) 0 5 3), .scr []] = .ok (.nxt (S1 (V (.tuple [.str "groups", .int 1])) (V t) x7 x8 x9 (V (.tuple [.str "groups", .int 1])))) [.orc (Orc.tl (Orc.tl (Orc.upd (Orc.upd o 1 5 3) 0 5 3))), .scr []]) ∧ (Fb t (S1 x5 x6 x7 x8 x9 x10) [.orc (Orc.upd (Orc.upd o 1 5 4) 0 5 3), .scr []] = .ok (.nxt (S1 (V (.tuple [.str "groups", .int 1])) (V t) x7 x8 x9 (V (.tuple [.str "groups", .int 2])))) [.orc (Orc.tl (Orc.tl (Orc.upd (Orc.upd o 1 5 4) 0 5 3))), .scr []]) := ⟨by kernel_rfl, by kernel_rfl, by kernel_rfl, by kernel_rfl, by kernel_rfl⟩
theorem pr1_4 (t : D) (x5 x6 x7 x8 x9 x10 : Option RV) (o : Orc) : (Fb t (S1 x5 x6 x7 x8 x9 x10) [.orc (Orc.upd (Orc.upd o 1 5 0) 0 5 4), .scr []] = .ok (.nxt (S1 (V (.tuple [.str "groups", .int 2])) (V t) x7 x8 x9 (V (.tuple [.str "trimmed", .int 0])))) [.orc (Orc.tl (Orc.tl (Orc.upd (Orc.upd o 1 5 0) 0 5 4))), .scr []]) ∧ (Fb t (S1 x5 x6 x7 x8 x9 x10) [.orc (Orc.upd (Orc.upd o 1 5 1) 0 5 4), .scr []] = .ok (.nxt (S1 (V (.tuple [.str "groups", .int 2])) (V t) x7 x8 x9 (V (.tuple [.str "winsorized", .int 0])))) [.orc (Orc.tl (Orc.tl (Orc.upd (Orc.upd o 1 5 1) 0 5 4))), .scr []]) ∧ (Fb t (S1 x5 x6 x7 x8 x9 x10) [.orc (Orc.upd (Orc.upd o 1 5 2) 0 5 4), .scr []] = .ok (.nxt (S1 (V (.tuple [.str "groups", .int 2])) (V t) x7 x8 x9 (V (.tuple [.str "pairs", .int 0])))) [.orc (Orc.tl (Orc.tl (Orc.upd (Orc.upd o 1 5 2) 0 5 4))), .scr []]) ∧ (Fb t (S1 x5 x6 x7 x8 x9 x10) [.orc (Orc.upd (Orc.upd o 1 5 3) 0 5 4), .scr []] = .ok (.nxt (S1 (V (.tuple [.str "groups", .int 2])) (V t) x7 x8 x9 (V (.tuple [.str "groups", .int 1])))) [.orc (Orc.tl (Orc.tl (Orc.upd (Orc.upd o 1 5 3) 0 5 4))), .scr []]) ∧ (Fb t (S1 x5 x6 x7 x8 x9 x10) [.orc (Orc.upd (Orc.upd o 1 5 4) 0 5 4), .scr []] = .ok (.nxt (S1 (V (.tuple [.str "groups", .int 2])) (V t) x7 x8 x9 (V (.tuple [.str "groups", .int 2])))) [.orc (Orc.tl (Orc.tl (Orc.upd (Orc.upd o 1 5 4) 0 5 4))), .scr []]) := ⟨by kernel_rfl, by kernel_rfl, by kernel_rfl, by kernel_rfl, by kernel_rfl⟩
theorem pr1 (t : D) (x5 x6 x7 x8 x9 x10 : Option RV) (o : Orc) (ho : OkO o) : ∃ y5 y10, Fb t (S1 x5 x6 x7 x8 x9 x10) [.orc o, .scr []] = .ok (.nxt (S1 y5 (V t) x7 x8 x9 y10)) [.orc (Orc.tl (Orc.tl o)), .scr []] := by
  have h0 := ho 0 5 (by decide)
  have h1 := ho 1 5 (by decide)
  have e := Orc.upd_self o 1 5
  have e2 := Orc.upd_self o 0 5
  generalize o 0 5 = a at h0 e2
  generalize o 1 5 = b at h1 e
  have ea : a = 0 ∨ a = 1 ∨ a = 2 ∨ a = 3 ∨ a = 4 := by omega
  have eb : b = 0 ∨ b = 1 ∨ b = 2 ∨ b = 3 ∨ b = 4 := by omega
  rcases ea with rfl | rfl | rfl | rfl | rfl
  · obtain ⟨k0, k1, k2, k3, k4⟩ := pr1_0 t x5 x6 x7 x8 x9 x10 o
    rcases eb with rfl | rfl | rfl | rfl | rfl
    · rw [e, e2] at k0; exact ⟨_, _, k0⟩
    · rw [e, e2] at k1; exact ⟨_, _, k1⟩
    · rw [e, e2] at k2; exact ⟨_, _, k2⟩
    · rw [e, e2] at k3; exact ⟨_, _, k3⟩
    · rw [e, e2] at k4; exact ⟨_, _, k4⟩
  · obtain ⟨k0, k1, k2, k3, k4⟩ := pr1_1 t x5 x6 x7 x8 x9 x10 o
    rcases eb with rfl | rfl | rfl | rfl | rfl
    · rw [e, e2] at k0; exact ⟨_, _, k0⟩
    · rw [e, e2] at k1; exact ⟨_, _, k1⟩
    · rw [e, e2] at k2; exact ⟨_, _, k2⟩
    · rw [e, e2] at k3; exact ⟨_, _, k3⟩
    · rw [e, e2] at k4; exact ⟨_, _, k4⟩
  · obtain ⟨k0, k1, k2, k3, k4⟩ := pr1_2 t x5 x6 x7 x8 x9 x10 o
    rcases eb with rfl | rfl | rfl | rfl | rfl
    · rw [e, e2] at k0; exact ⟨_, _, k0⟩
    · rw [e, e2] at k1; exact ⟨_, _, k1⟩
    · rw [e, e2] at k2; exact ⟨_, _, k2⟩
    · rw [e, e2] at k3; exact ⟨_, _, k3⟩
    · rw [e, e2] at k4; exact ⟨_, _, k4⟩
  · obtain ⟨k0, k1, k2, k3, k4⟩ := pr1_3 t x5 x6 x7 x8 x9 x10 o
    rcases eb with rfl | rfl | rfl | rfl | rfl
    · rw [e, e2] at k0; exact ⟨_, _, k0⟩
    · rw [e, e2] at k1; exact ⟨_, _, k1⟩
    · rw [e, e2] at k2; exact ⟨_, _, k2⟩
    · rw [e, e2] at k3; exact ⟨_, _, k3⟩
    · rw [e, e2] at k4; exact ⟨_, _, k4⟩
  · obtain ⟨k0, k1, k2, k3, k4⟩ := pr1_4 t x5 x6 x7 x8 x9 x10 o
    rcases eb with rfl | rfl | rfl | rfl | rfl
    · rw [e, e2] at k0; exact ⟨_, _, k0⟩
    · rw [e, e2] at k1; exact ⟨_, _, k1⟩
    · rw [e, e2] at k2; exact ⟨_, _, k2⟩
    · rw [e, e2] at k3; exact ⟨_, _, k3⟩
    · rw [e, e2] at k4; exact ⟨_, _, k4⟩
theorem sfs1 (x5 x6 x9 x10 : Option RV) (o : Orc) : (execs (ex exF G) (B.drop 9) (S1 x5 x6 none none x9 x10) [.orc (Orc.upd o 0 3 0), .scr []] = .ok (.ret (.val (.bool true))) [.orc (Orc.tl (Orc.upd o 0 3 0)), .scr []]) ∧ (execs (ex exF G) (B.drop 9) (S1 x5 x6 none none x9 x10) [.orc (Orc.upd o 0 3 1), .scr []] = .ok (.ret (.val (.bool true))) [.orc (Orc.tl (Orc.upd o 0 3 1)), .scr []]) ∧ (execs (ex exF G) (B.drop 9) (S1 x5 x6 none none x9 x10) [.orc (Orc.upd o 0 3 2), .scr []] = .ok (.ret (.val (.bool true))) [.orc (Orc.tl (Orc.upd o 0 3 2)), .scr []]) := ⟨by kernel_rfl, by kernel_rfl, by kernel_rfl⟩
theorem sf1 (x5 x6 x9 x10 : Option RV) (o : Orc) (ho : OkO o) : execs (ex exF G) (B.drop 9) (S1 x5 x6 none none x9 x10) [.orc o, .scr []] = .ok (.ret (.val (.bool true))) [.orc (Orc.tl o), .scr []] := by
  have h0 := ho 0 3 (by decide)
  have e := Orc.upd_self o 0 3
  generalize o 0 3 = a at h0 e
  have ea : a = 0 ∨ a = 1 ∨ a = 2 := by omega
  obtain ⟨k0, k1, k2⟩ := sfs1 x5 x6 x9 x10 o
  rcases ea with rfl | rfl | rfl
  · rw [e] at k0; exact k0
  · rw [e] at k1; exact k1
  · rw [e] at k2; exact k2
theorem all1 (o : Orc) (ho : OkO o) (h : o 0 9 = 1) : ∃ w', execs (ex exF G) B [V (spc 0), none, none, none, none, none, none, none, none, none, none] [.orc o] = .ok (.ret (.val (.bool true))) w' := by
  have e0 := Orc.upd_self o 0 9
  rw [h] at e0
  have p := pre1 o
  rw [e0] at p
  have eB : B = B.take 8 ++ (st8 :: B.drop 9) := rfl
  obtain ⟨a5, a10, q1⟩ := pr1 (.int 0) (V (.tuple [.str "groups", .int 2])) none none none (V (.int 0)) none (Orc.tl o) (okO_tl ho)
  obtain ⟨b5, b10, q2⟩ := pr1 (.int 1) a5 (V (.int 0)) none none (V (.int 0)) a10 (Orc.tl (Orc.tl (Orc.tl o))) (okO_tl (okO_tl (okO_tl ho)))
  have hl : ex exF G st8 (S1 (V (.tuple [.str "groups", .int 2])) none none none (V (.int 0)) none) [.orc (Orc.tl o), .scr []] = .ok (.nxt (S1 b5 (V (.int 1)) none none (V (.int 0)) b10)) [.orc (Orc.tl (Orc.tl (Orc.tl (Orc.tl (Orc.tl o))))), .scr []] := by
    rw [lp1]
    show (Fb (.int 0) _ _).bind _ = _
    rw [q1]
    show (Fb (.int 1) _ _).bind _ = _
    rw [q2]
    rfl
  have z := sf1 b5 (V (.int 1)) (V (.int 0)) b10 _ (okO_tl (okO_tl (okO_tl (okO_tl (okO_tl ho)))))
  have k := execs_app (b := st8 :: B.drop 9) p
  rw [← eB] at k
  refine ⟨[.orc (Orc.tl (Orc.tl (Orc.tl (Orc.tl (Orc.tl (Orc.tl o)))))), .scr []], k.trans ?_⟩
  show (ex exF G st8 _ _).bind _ = _
  rw [hl]
  exact z
abbrev rs2 : List D := [.tuple [.str "trimmed", .int 0], .tuple [.str "trimmed", .int 1], .tuple [.str "winsorized", .int 0], .tuple [.str "winsorized", .int 1], .tuple [.str "pairs", .int 0], .tuple [.str "groups", .int 1], .tuple [.str "groups", .int 3]]
abbrev S2 (x5 x6 x7 x8 x9 x10 : Option RV) : Sl := [V (spc 0), V (spc 1), V (.int 3), V (.list rs2), V (.int 1), x5, x6, x7, x8, x9, x10]
theorem pre2 (o : Orc) : execs (ex exF G) (B.take 8) [V (spc 0), none, none, none, none, none, none, none, none, none, none] [.orc (Orc.upd o 0 9 2)] = .ok (.nxt (S2 (V (.tuple [.str "groups", .int 3])) none none none (V (.int 0)) none)) [.orc (Orc.tl (Orc.upd o 0 9 2)), .scr []] := by kernel_rfl
theorem lp2 (x5 x6 x7 x8 x9 x10 : Option RV) (w : Wd) : ex exF G st8 (S2 x5 x6 x7 x8 x9 x10) w = forL Fb [.int 0, .int 1] (S2 x5 x6 x7 x8 x9 x10) w := by kernel_rfl
theorem pr2_0 (t : D) (x5 x6 x7 x8 x9 x10 : Option RV) (o : Orc) : (Fb t (S2 x5 x6 x7 x8 x9 x10) [.orc (Orc.upd (Orc.upd o 1 7 0) 0 7 0), .scr []] = .ok (.nxt (S2 (V (.tuple [.str "trimmed", .int 0])) (V t) x7 x8 x9 (V (.tuple [.str "trimmed", .int 0])))) [.orc (Orc.tl (Orc.tl (Orc.upd (Orc.upd o 1 7 0) 0 7 0))), .scr []]) ∧ (Fb t (S2 x5 x6 x7 x8 x9 x10) [.orc (Orc.upd (Orc.upd o 1 7 1) 0 7 0), .scr []] = .ok (.nxt (S2 (V (.tuple [.str "trimmed", .int 0])) (V t) x7 x8 x9 (V (.tuple [.str "trimmed", .int 1])))) [.orc (Orc.tl (Orc.tl (Orc.upd (Orc.upd o 1 7 1) 0 7 0))), .scr []]) ∧ (Fb t (S2 x5 x6 x7 x8 x9 x10) [.orc (Orc.upd (Orc.upd o 1 7 2) 0 7 0), .scr []] = .ok (.nxt (S2 (V (.tuple [.str "trimmed", .int 0])) (V t) x7 x8 x9 (V (.tuple [.str "winsorized", .int 0])))) [.orc (Orc.tl (Orc.tl (Orc.upd (Orc.upd o 1 7 2) 0 7 0))), .scr []]) ∧ (Fb t (S2 x5 x6 x7 x8 x9 x10) [.orc (Orc.upd (Orc.upd o 1 7 3) 0 7 0), .scr []] = .ok (.nxt (S2 (V (.tuple [.str "trimmed", .int 0])) (V t) x7 x8 x9 (V (.tuple [.str "winsorized", .int 1])))) [.orc (Orc.tl (Orc.tl (Orc.upd (Orc.upd o 1 7 3) 0 7 0))), .scr []]) ∧ (Fb t (S2 x5 x6 x7 x8 x9 x10) [.orc (Orc.upd (Orc.upd o 1 7 4) 0 7 0), .scr []] = .ok (.nxt (S2 (V (.tuple [.str "trimmed", .int 0])) (V t) x7 x8 x9 (V (.tuple [.str "pairs", .int 0])))) [.orc (Orc.tl (Orc.tl (Orc.upd (Orc.upd o 1 7 4) 0 7 0))), .scr []]) ∧ (Fb t (S2 x5 x6 x7 x8 x9 x10) [.orc (Orc.upd (Orc.upd o 1 7 5) 0 7 0), .scr []] = .ok (.nxt (S2 (V (.tuple [.str "trimmed", .int 0])) (V t) x7 x8 x9 (V (.tuple [.str "groups", .int 1])))) [.orc (Orc.tl (Orc.tl (Orc.upd (Orc.upd o 1 7 5) 0 7 0))), .scr []]) ∧ (Fb t (S2 x5 x6 x7 x8 x9 x10) [.orc (Orc.upd (Orc.upd o 1 7 6) 0 7 0), .scr []] = .ok (.nxt (S2 (V (.tuple [.str "trimmed", .int 0])) (V t) x7 x8 x9 (V (.tuple [.str "groups", .int 3])))) [.orc (Orc.tl (Orc.tl (Orc.upd (Orc.upd o 1 7 6) 0 7 0))), .scr []]) := ⟨by kernel_rfl, by kernel_rfl, by kernel_rfl, by kernel_rfl, by kernel_rfl, by kernel_rfl, by kernel_rfl⟩
theorem pr2_1 (t : D) (x5 x6 x7 x8 x9 x10 : Option RV) (o : Orc) : (Fb t (S2 x5 x6 x7 x8 x9 x10) [.orc (Orc.upd (Orc.upd o 1 7 0) 0 7 1), .scr []] = .ok (.nxt (S2 (V (.tuple [.str "trimmed", .int 1])) (V t) x7 x8 x9 (V (.tuple [.str "trimmed", .int 0])))) [.orc (Orc.tl (Orc.tl (Orc.upd (Orc.upd o 1 7 0) 0 7 1))), .scr []]) ∧ (Fb t (S2 x5 x6 x7 x8 x9 x10) [.orc (Orc.upd (Orc.upd o 1 7 1) 0 7 1), .scr []] = .ok (.nxt (S2 (V (.tuple [.str "trimmed", .int 1])) (V t) x7 x8 x9 (V (.tuple [.str "trimmed", .int 1])))) [.orc (Orc.tl (Orc.tl (Orc.upd (Orc.upd o 1 7 1) 0 7 1))), .scr []]) ∧ (Fb t (S2 x5 x6 x7 x8 x9 x10) [.orc (Orc.upd (Orc.upd o 1 7 2) 0 7 1), .scr []] = .ok (.nxt (S2 (V (.tuple [.str "trimmed", .int 1])) (V t) x7 x8 x9 (V (.tuple [.str "winsorized", .int 0])))) [.orc (Orc.tl (Orc.tl (Orc.upd (Orc.upd o 1 7 2) 0 7 1))), .scr []]) ∧ (Fb t (S2 x5 x6 x7 x8 x9 x10) [.orc (Orc.upd (Orc.upd o 1 7 3) 0 7 1), .scr []] = .ok (.nxt (S2 (V (.tuple [.str "trimmed", .int 1])) (V t) x7 x8 x9 (V (.tuple [.str "winsorized", .int 1])))) [.orc (Orc.tl (Orc.tl (Orc.upd (Orc.upd o 1 7 3) 0 7 1))), .scr []]) ∧ (Fb t (S2 x5 x6 x7 x8 x9 x10) [.orc (Orc.upd (Orc.upd o 1 7 4) 0 7 1), .scr []] = .ok (.nxt (S2 (V (.tuple [.str "trimmed", .int 1])) (V t) x7 x8 x9 (V (.tuple [.str "pairs", .int 0])))) [.orc (Orc.tl (Orc.tl (Orc.upd (Orc.upd o 1 7 4) 0 7 1))), .scr []]) ∧ (Fb t (S2 x5 x6 x7 x8 x9 x10) [.orc (Orc.upd (Orc.upd o 1 7 5) 0 7 1), .scr []] = .ok (.nxt (S2 (V (.tuple [.str "trimmed", .int 1])) (V t) x7 x8 x9 (V (.tuple [.str "groups", .int 1])))) [.orc (Orc.tl (Orc.tl (Orc.upd (Orc.upd o 1 7 5) 0 7 1))), .scr []]) ∧ (Fb t (S2 x5 x6 x7 x8 x9 x10) [.orc (Orc.upd (Orc.upd o 1 7 6) 0 7 1), .scr []] = .ok (.nxt (S2 (V (.tuple [.str "trimmed", .int 1])) (V t) x7 x8 x9 (V (.tuple [.str "groups", .int 3])))) [.orc (Orc.tl (Orc.tl (Orc.upd (Orc.upd o 1 7 6) 0 7 1))), .scr []]) := ⟨by kernel_rfl, by kernel_rfl, by kernel_rfl, by kernel_rfl, by kernel_rfl, by kernel_rfl, by kernel_rfl⟩
theorem pr2_2 (t : D) (x5 x6 x7 x8 x9 x10 : Option RV) (o : Orc) : (Fb t (S2 x5 x6 x7 x8 x9 x10) [.orc (Orc.upd (Orc.upd o 1 7 0) 0 7 2), .scr []] = .ok (.nxt (S2 (V (.tuple [.str "winsorized", .int 0])) (V t) x7 x8 x9 (V (.tuple [.str "trimmed", .int 0])))) [.orc (Orc.tl (Orc.tl (Orc.upd (Orc.upd o 1 7 0) 0 7 2))), .scr []]) ∧ (Fb t (S2 x5 x6 x7 x8 x9 x10) [.orc (Orc.upd (Orc.upd o 1 7 1) 0 7 2), .scr []] = .ok (.nxt (S2 (V (.tuple [.str "winsorized", .int 0])) (V t) x7 x8 x9 (V (.tuple [.str "trimmed", .int 1])))) [.orc (Orc.tl (Orc.tl (Orc.upd (Orc.upd o 1 7 1) 0 7 2))), .scr []]) ∧ (Fb t (S2 x5 x6 x7 x8 x9 x10) [.orc (Orc.upd (Orc.upd o 1 7 2) 0 7 2), .scr []] = .ok (.nxt (S2 (V (.tuple [.str "winsorized", .int 0])) (V t) x7 x8 x9 (V (.tuple [.str "winsorized", .int 0])))) [.orc (Orc.tl (Orc.tl (Orc.upd (Orc.upd o 1 7 2) 0 7 2))), .scr []]) ∧ (Fb t (S2 x5 x6 x7 x8 x9 x10) [.orc (Orc.upd (Orc.upd o 1 7 3) 0 7 2), .scr []] = .ok (.nxt (S2 (V (.tuple [.str "winsorized", .int 0])) (V t) x7 x8 x9 (V (.tuple [.str "winsorized", .int 1])))) [.orc (Orc.tl (Orc.tl (Orc.upd (Orc.upd o 1 7 3) 0 7 2))), .scr []]) ∧ (Fb t (S2 x5 x6 x7 x8 x9 x10) [.orc (Orc.upd (Orc.upd o 1 7 4) 0 7 2), .scr []] = .ok (.nxt (S2 (V (.tuple [.str "winsorized", .int 0])) (V t) x7 x8 x9 (V (.tuple [.str "pairs", .int 0])))) [.orc (Orc.tl (Orc.tl (Orc.upd (Orc.upd o 1 7 4) 0 7 2))), .scr []]) ∧ (Fb t (S2 x5 x6 x7 x8 x9 x10) [.orc (Orc.upd (Orc.upd o 1 7 5) 0 7 2), .scr []] = .ok (.nxt (S2 (V (.tuple [.str "winsorized", .int 0])) (V t) x7 x8 x9 (V (.tuple [.str "groups", .int 1])))) [.orc (Orc.tl (Orc.tl (Orc.upd (Orc.upd o 1 7 5) 0 7 2))), .scr []]) ∧ (Fb t (S2 x5 x6 x7 x8 x9 x10) [.orc (Orc.upd (Orc.upd o 1 7 6) 0 7 2), .scr []] = .ok (.nxt (S2 (V (.tuple [.str "winsorized", .int 0])) (V t) x7 x8 x9 (V (.tuple [.str "groups", .int 3])))) [.orc (Orc.tl (Orc.tl (Orc.upd (Orc.upd o 1 7 6) 0 7 2))), .scr []]) := ⟨by kernel_rfl, by kernel_rfl, by kernel_rfl, by kernel_rfl, by kernel_rfl, by kernel_rfl, by kernel_rfl⟩
theorem pr2_3 (t : D) (x5 x6 x7 x8 x9 x10 : Option RV) (o : Orc) : (Fb t (S2 x5 x6 x7 x8 x9 x10) [.orc (Orc.upd (Orc.upd o 1 7 0) 0 7 3), .scr []] = .ok (.nxt (S2 (V (.tuple [.str "winsorized", .int 1])) (V t) x7 x8 x9 (V (.tuple [.str "trimmed", .int 0])))) [.orc (Orc.tl (Orc.tl (Orc.upd (Orc.upd o 1 7 0) 0 7 3))), .scr []]) ∧ (Fb t (S2 x5 x6 x7 x8 x9 x10) [.orc (Orc.upd (Orc.upd o 1 7 1) 0 7 3), .scr []] = .ok (.nxt (S2 (V (.tuple [.str "winsorized", .int 1])) (V t) x7 x8 x9 (V (.tuple [.str "trimmed", .int 1])))) [.orc (Orc.tl (Orc.tl (Orc.upd (Orc.upd o 1 7 1) 0 7 3))), .scr []]) ∧ (Fb t (S2 x5 x6 x7 x8 x9 x10) [.orc (Orc.upd (Orc.upd o 1 7 2) 0 7 3), .scr []] = .ok (.nxt (S2 (V (.tuple [.str "winsorized", .int 1])) (V t) x7 x8 x9 (V (.tuple [.str "winsorized", .int 0])))) [.orc (Orc.tl (Orc.tl (Orc.upd (Orc.upd o 1 7 2) 0 7 3))), .scr []]) ∧ (Fb t (S2 x5 x6 x7 x8 x9 x10) [.orc (Orc.upd (Orc.upd o 1 7 3) 0 7 3), .scr []] = .ok (.nxt (S2 (V (.tuple [.str "winsorized", .int 1])) (V t) x7 x8 x9 (V (.tuple [.str "winsorized", .int 1])))) [.orc (Orc.tl (Orc.tl (Orc.upd (Orc.upd o 1 7 3) 0 7 3))), .scr []]) ∧ (Fb t (S2 x5 x6 x7 x8 x9 x10) [.orc (Orc.upd (Orc.upd o 1 7 4) 0 7 3), .scr []] = .ok (.nxt (S2 (V (.tuple [.str "winsorized", .int 1])) (V t) x7 x8 x9 (V (.tuple [.str "pairs", .int 0])))) [.orc (Orc.tl (Orc.tl (Orc.upd (Orc.upd o 1 7 4) 0 7 3))), .scr []]) ∧ (Fb t (S2 x5 x6 x7 x8 x9 x10) [.orc (Orc.upd (Orc.upd o 1 7 5) 0 7 3), .scr []] = .ok (.nxt (S2 (V (.tuple [.str "winsorized", .int 1])) (V t) x7 x8 x9 (V (.tuple [.str "groups", .int 1])))) [.orc (Orc.tl (Orc.tl (Orc.upd (Orc.upd o 1 7 5) 0 7 3))), .scr []]) ∧ (Fb t (S2 x5 x6 x7 x8 x9 x10) [.orc (Orc.upd (Orc.upd o 1 7 6) 0 7 3), .scr []] = .ok (.nxt (S2 (V (.tuple [.str "winsorized", .int 1])) (V t) x7 x8 x9 (V (.tuple [.str "groups", .int 3])))) [.orc (Orc.tl (Orc.tl (Orc.upd (Orc.upd o 1 7 6) 0 7 3))), .scr []]) := ⟨by kernel_rfl, by kernel_rfl, by kernel_rfl, by kernel_rfl, by kernel_rfl, by kernel_rfl, by kernel_rfl⟩
theorem pr2_4 (t : D) (x5 x6 x7 x8 x9 x10 : Option RV) (o : Orc) : (Fb t (S2 x5 x6 x7 x8 x9 x10) [.orc (Orc.upd (Orc.upd o 1 7 0) 0 7 4), .scr []] = .ok (.nxt (S2 (V (.tuple [.str "pairs", .int 0])) (V t) x7 x8 x9 (V (.tuple [.str "trimmed", .int 0])))) [.orc (Orc.tl (Orc.tl (Orc.upd (Orc.upd o 1 7 0) 0 7 4))), .scr []]) ∧ (Fb t (S2 x5 x6 x7 x8 x9 x10) [.orc (Orc.upd (Orc.upd o 1 7 1) 0 7 4), .scr []] = .ok (.nxt (S2 (V (.tuple [.str "pairs", .int 0])) (V t) x7 x8 x9 (V (.tuple [.str "trimmed", .int 1])))) [.orc (Orc.tl (Orc.tl (Orc.upd (Orc.upd o 1 7 1) 0 7 4))), .scr []]) ∧ (Fb t (S2 x5 x6 x7 x8 x9 x10) [.orc (Orc.upd (Orc.upd o 1 7 2) 0 7 4), .scr []] = .ok (.nxt (S2 (V (.tuple [.str "pairs", .int 0])) (V t) x7 x8 x9 (V (.tuple [.str "winsorized", .int 0])))) [.orc (Orc.tl (Orc.tl (Orc.upd (Orc.upd o 1 7 2) 0 7 4))), .scr []]) ∧ (Fb t (S2 x5 x6 x7 x8 x9 x10) [.orc (Orc.upd (Orc.upd o 1 7 3) 0 7 4), .scr []] = .ok (.nxt (S2 (V (.tuple [.str "pairs", .int 0])) (V t) x7 x8 x9 (V (.tuple [.str "winsorized", .int 1])))) [.orc (Orc.tl (Orc.tl (Orc.upd (Orc.upd o 1 7 3) 0 7 4))), .scr []]) ∧ (Fb t (S2 x5 x6 x7 x8 x9 x10) [.orc (Orc.upd (Orc.upd o 1 7 4) 0 7 4), .scr []] = .ok (.nxt (S2 (V (.tuple [.str "pairs", .int 0])) (V t) x7 x8 x9 (V (.tuple [.str "pairs", .int 0])))) [.orc (Orc.tl (Orc.tl (Orc.upd (Orc.upd o 1 7 4) 0 7 4))), .scr []]) ∧ (Fb t (S2 x5 x6 x7 x8 x9 x10) [.orc (Orc.upd (Orc.upd o 1 7 5) 0 7 4), .scr []] = .ok (.nxt (S2 (V (.tuple [.str "pairs", .int 0])) (V t) x7 x8 x9 (V (.tuple [.str "groups", .int 1])))) [.orc (Orc.tl (Orc.tl (Orc.upd (Orc.upd o 1 7 5) 0 7 4))), .scr []]) ∧ (Fb t (S2 x5 x6 x7 x8 x9 x10) [.orc (Orc.upd (Orc.upd o 1 7 6) 0 7 4), .scr []] = .ok (.nxt (S2 (V (.tuple [.str "pairs", .int 0])) (V t) x7 x8 x9 (V (.tuple [.str "groups", .int 3])))) [.orc (Orc.tl (Orc.tl (Orc.upd (Orc.upd o 1 7 6) 0 7 4))), .scr []]) := ⟨by kernel_rfl, by kernel_rfl, by kernel_rfl, by kernel_rfl, by kernel_rfl, by kernel_rfl, by kernel_rfl⟩
theorem pr2_5 (t : D) (x5 x6 x7 x8 x9 x10 : Option RV) (o : Orc) : (Fb t (S2 x5 x6 x7 x8 x9 x10) [.orc (Orc.upd (Orc.upd o 1 7 0) 0 7 5), .scr []] = .ok (.nxt (S2 (V (.tuple [.str "groups", .int 1])) (V t) x7 x8 x9 (V (.tuple [.str "trimmed", .int 0])))) [.orc (Orc.tl (Orc.tl (Orc.upd (Orc.upd o 1 7 0) 0 7 5))), .scr []]) ∧ (Fb t (S2 x5 x6 x7 x8 x9 x10) [.orc (Orc.upd (Orc.upd o 1 7 1) 0 7 5), .scr []] = .ok (.nxt (S2 (V (.tuple [.str "groups", .int 1])) (V t) x7 x8 x9 (V (.tuple [.str "trimmed", .int 1])))) [.orc (Orc.tl (Orc.tl (Orc.upd (Orc.upd o 1 7 1) 0 7 5))), .scr []]) ∧ (Fb t (S2 x5 x6 x7 x8 x9 x10) [.orc (Orc.upd (Orc.upd o 1 7 2) 0 7 5), .scr []] = .ok (.nxt (S2 (V (.tuple [.str "groups", .int 1])) (V t) x7 x8 x9 (V (.tuple [.str "winsorized", .int 0])))) [.orc (Orc.tl (Orc.tl (Orc.upd (Orc.upd o 1 7 2) 0 7 5))), .scr []]) ∧ (Fb t (S2 x5 x6 x7 x8 x9 x10) [.orc (Orc.upd (Orc.upd o 1 7 3) 0 7 5), .scr []] = .ok (.nxt (S2 (V (.tuple [.str "groups", .int 1])) (V t) x7 x8 x9 (V (.tuple [.str "winsorized", .int 1])))) [.orc (Orc.tl (Orc.tl (Orc.upd (Orc.upd o 1 7 3) 0 7 5))), .scr []]) ∧ (Fb t (S2 x5 x6 x7 x8 x9 x10) [.orc (Orc.upd (Orc.upd o 1 7 4) 0 7 5), .scr []] = .ok (.nxt (S2 (V (.tuple [.str "groups", .int 1])) (V t) x7 x8 x9 (V (.tuple [.str "pairs", .int 0])))) [.orc (Orc.tl (Orc.tl (Orc.upd (Orc.upd o 1 7 4) 0 7 5))), .scr []]) ∧ (Fb t (S2 x5 x6 x7 x8 x9 x10) [.orc (Orc.upd (Orc.upd o 1 7 5) 0 7 5), .scr []] = .ok (.nxt (S2 (V (.tuple [.str "groups", .int 1])) (V t) x7 x8 x9 (V (.tuple [.str "groups", .int 1])))) [.orc (Orc.tl (Orc.tl (Orc.upd (Orc.upd o 1 7 5) 0 7 5))), .scr []]) ∧ (Fb t (S2 x5 x6 x7 x8 x9 x10) [.orc (Orc.upd (Orc.upd o 1 7 6) 0 7 5), .scr []] = .ok (.nxt (S2 (V (.tuple [.str "groups", .int 1])) (V t) x7 x8 x9 (V (.tuple [.str "groups", .int 3])))) [.orc (Orc.tl (Orc.tl (Orc.upd (Orc.upd o 1 7 6) 0 7 5))), .scr []]) := ⟨by kernel_rfl, by kernel_rfl, by kernel_rfl, by kernel_rfl, by kernel_rfl, by kernel_rfl, by kernel_rfl⟩
theorem pr2_6 (t : D) (x5 x6 x7 x8 x9 x10 : Option RV) (o : Orc) : (Fb t (S2 x5 x6 x7 x8 x9 x10) [.orc (Orc.upd (Orc.upd o 1 7 0) 0 7 6), .scr []] = .ok (.nxt (S2 (V (.tuple [.str "groups", .int 3])) (V t) x7 x8 x9 (V (.tuple [.str "trimmed", .int 0])))) [.orc (Orc.tl (Orc.tl (Orc.upd (Orc.upd o 1 7 0) 0 7 6))), .scr []]) ∧ (Fb t (S2 x5 x6 x7 x8 x9 x10) [.orc (Orc.upd (Orc.upd o 1 7 1) 0 7 6), .scr []] = .ok (.nxt (S2 (V (.tuple [.str "groups", .int 3])) (V t) x7 x8 x9 (V (.tuple [.str "trimmed", .int 1])))) [.orc (Orc.tl (Orc.tl (Orc.upd (Orc.upd o 1 7 1) 0 7 6))), .scr []]) ∧ (Fb t (S2 x5 x6 x7 x8 x9 x10) [.orc (Orc.upd (Orc.upd o 1 7 2) 0 7 6), .scr []] = .ok (.nxt (S2 (V (.tuple [.str "groups", .int 3])) (V t) x7 x8 x9 (V (.tuple [.str "winsorized", .int 0])))) [.orc (Orc.tl (Orc.tl (Orc.upd (Orc.upd o 1 7 2) 0 7 6))), .scr []]) ∧ (Fb t (S2 x5 x6 x7 x8 x9 x10) [.orc (Orc.upd (Orc.upd o 1 7 3) 0 7 6), .scr []] = .ok (.nxt (S2 (V (.tuple [.str "groups", .int 3])) (V t) x7 x8 x9 (V (.tuple [.str "winsorized", .int 1])))) [.orc (Orc.tl (Orc.tl (Orc.upd (Orc.upd o 1 7 3) 0 7 6))), .scr []]) ∧ (Fb t (S2 x5 x6 x7 x8 x9 x10) [.orc (Orc.upd (Orc.upd o 1 7 4) 0 7 6), .scr []] = .ok (.nxt (S2 (V (.tuple [.str "groups", .int 3])) (V t) x7 x8 x9 (V (.tuple [.str "pairs", .int 0])))) [.orc (Orc.tl (Orc.tl (Orc.upd (Orc.upd o 1 7 4) 0 7 6))), .scr []]) ∧ (Fb t (S2 x5 x6 x7 x8 x9 x10) [.orc (Orc.upd (Orc.upd o 1 7 5) 0 7 6), .scr []] = .ok (.nxt (S2 (V (.tuple [.str "groups", .int 3])) (V t) x7 x8 x9 (V (.tuple [.str "groups", .int 1])))) [.orc (Orc.tl (Orc.tl (Orc.upd (Orc.upd o 1 7 5) 0 7 6))), .scr []]) ∧ (Fb t (S2 x5 x6 x7 x8 x9 x10) [.orc (Orc.upd (Orc.upd o 1 7 6) 0 7 6), .scr []] = .ok (.nxt (S2 (V (.tuple [.str "groups", .int 3])) (V t) x7 x8 x9 (V (.tuple [.str "groups", .int 3])))) [.orc (Orc.tl (Orc.tl (Orc.upd (Orc.upd o 1 7 6) 0 7 6))), .scr []]) := ⟨by kernel_rfl, by kernel_rfl, by kernel_rfl, by kernel_rfl, by kernel_rfl, by kernel_rfl, by kernel_rfl⟩
theorem pr2 (t : D) (x5 x6 x7 x8 x9 x10 : Option RV) (o : Orc) (ho : OkO o) : ∃ y5 y10, Fb t (S2 x5 x6 x7 x8 x9 x10) [.orc o, .scr []] = .ok (.nxt (S2 y5 (V t) x7 x8 x9 y10)) [.orc (Orc.tl (Orc.tl o)), .scr []] := by
  have h0 := ho 0 7 (by decide)
  have h1 := ho 1 7 (by decide)
  have e := Orc.upd_self o 1 7
  have e2 := Orc.upd_self o 0 7
  generalize o 0 7 = a at h0 e2
  generalize o 1 7 = b at h1 e
  have ea : a = 0 ∨ a = 1 ∨ a = 2 ∨ a = 3 ∨ a = 4 ∨ a = 5 ∨ a = 6 := by omega
  have eb : b = 0 ∨ b = 1 ∨ b = 2 ∨ b = 3 ∨ b = 4 ∨ b = 5 ∨ b = 6 := by omega
  rcases ea with rfl | rfl | rfl | rfl | rfl | rfl | rfl
  · obtain ⟨k0, k1, k2, k3, k4, k5, k6⟩ := pr2_0 t x5 x6 x7 x8 x9 x10 o
    rcases eb with rfl | rfl | rfl | rfl | rfl | rfl | rfl
    · rw [e, e2] at k0; exact ⟨_, _, k0⟩
    · rw [e, e2] at k1; exact ⟨_, _, k1⟩
    · rw [e, e2] at k2; exact ⟨_, _, k2⟩
    · rw [e, e2] at k3; exact ⟨_, _, k3⟩
    · rw [e, e2] at k4; exact ⟨_, _, k4⟩
    · rw [e, e2] at k5; exact ⟨_, _, k5⟩
    · rw [e, e2] at k6; exact ⟨_, _, k6⟩
  · obtain ⟨k0, k1, k2, k3, k4, k5, k6⟩ := pr2_1 t x5 x6 x7 x8 x9 x10 o
    rcases eb with rfl | rfl | rfl | rfl | rfl | rfl | rfl
    · rw [e, e2] at k0; exact ⟨_, _, k0⟩
    · rw [e, e2] at k1; exact ⟨_, _, k1⟩
    · rw [e, e2] at k2; exact ⟨_, _, k2⟩
    · rw [e, e2] at k3; exact ⟨_, _, k3⟩
    · rw [e, e2] at k4; exact ⟨_, _, k4⟩
    · rw [e, e2] at k5; exact ⟨_, _, k5⟩
    · rw [e, e2] at k6; exact ⟨_, _, k6⟩
  · obtain ⟨k0, k1, k2, k3, k4, k5, k6⟩ := pr2_2 t x5 x6 x7 x8 x9 x10 o
    rcases eb with rfl | rfl | rfl | rfl | rfl | rfl | rfl
    · rw [e, e2] at k0; exact ⟨_, _, k0⟩
    · rw [e, e2] at k1; exact ⟨_, _, k1⟩
    · rw [e, e2] at k2; exact ⟨_, _, k2⟩
    · rw [e, e2] at k3; exact ⟨_, _, k3⟩
    · rw [e, e2] at k4; exact ⟨_, _, k4⟩
    · rw [e, e2] at k5; exact ⟨_, _, k5⟩
    · rw [e, e2] at k6; exact ⟨_, _, k6⟩
  · obtain ⟨k0, k1, k2, k3, k4, k5, k6⟩ := pr2_3 t x5 x6 x7 x8 x9 x10 o
    rcases eb with rfl | rfl | rfl | rfl | rfl | rfl | rfl
    · rw [e, e2] at k0; exact ⟨_, _, k0⟩
    · rw [e, e2] at k1; exact ⟨_, _, k1⟩
    · rw [e, e2] at k2; exact ⟨_, _, k2⟩
    · rw [e, e2] at k3; exact ⟨_, _, k3⟩
    · rw [e, e2] at k4; exact ⟨_, _, k4⟩
    · rw [e, e2] at k5; exact ⟨_, _, k5⟩
    · rw [e, e2] at k6; exact ⟨_, _, k6⟩
  · obtain ⟨k0, k1, k2, k3, k4, k5, k6⟩ := pr2_4 t x5 x6 x7 x8 x9 x10 o
    rcases eb with rfl | rfl | rfl | rfl | rfl | rfl | rfl
    · rw [e, e2] at k0; exact ⟨_, _, k0⟩
    · rw [e, e2] at k1; exact ⟨_, _, k1⟩
    · rw [e, e2] at k2; exact ⟨_, _, k2⟩
    · rw [e, e2] at k3; exact ⟨_, _, k3⟩
    · rw [e, e2] at k4; exact ⟨_, _, k4⟩
    · rw [e, e2] at k5; exact ⟨_, _, k5⟩
    · rw [e, e2] at k6; exact ⟨_, _, k6⟩
  · obtain ⟨k0, k1, k2, k3, k4, k5, k6⟩ := pr2_5 t x5 x6 x7 x8 x9 x10 o
    rcases eb with rfl | rfl | rfl | rfl | rfl | rfl | rfl
    · rw [e, e2] at k0; exact ⟨_, _, k0⟩
    · rw [e, e2] at k1; exact ⟨_, _, k1⟩
    · rw [e, e2] at k2; exact ⟨_, _, k2⟩
    · rw [e, e2] at k3; exact ⟨_, _, k3⟩
    · rw [e, e2] at k4; exact ⟨_, _, k4⟩
    · rw [e, e2] at k5; exact ⟨_, _, k5⟩
    · rw [e, e2] at k6; exact ⟨_, _, k6⟩
  · obtain ⟨k0, k1, k2, k3, k4, k5, k6⟩ := pr2_6 t x5 x6 x7 x8 x9 x10 o
    rcases eb with rfl | rfl | rfl | rfl | rfl | rfl | rfl
    · rw [e, e2] at k0; exact ⟨_, _, k0⟩
    · rw [e, e2] at k1; exact ⟨_, _, k1⟩
    · rw [e, e2] at k2; exact ⟨_, _, k2⟩
    · rw [e, e2] at k3; exact ⟨_, _, k3⟩
    · rw [e, e2] at k4; exact ⟨_, _, k4⟩
    · rw [e, e2] at k5; exact ⟨_, _, k5⟩
    · rw [e, e2] at k6; exact ⟨_, _, k6⟩
theorem sfs2 (x5 x6 x9 x10 : Option RV) (o : Orc) : (execs (ex exF G) (B.drop 9) (S2 x5 x6 none none x9 x10) [.orc (Orc.upd o 0 4 0), .scr []] = .ok (.ret (.val (.bool true))) [.orc (Orc.tl (Orc.upd o 0 4 0)), .scr []]) ∧ (execs (ex exF G) (B.drop 9) (S2 x5 x6 none none x9 x10) [.orc (Orc.upd o 0 4 1), .scr []] = .ok (.ret (.val (.bool true))) [.orc (Orc.tl (Orc.upd o 0 4 1)), .scr []]) ∧ (execs (ex exF G) (B.drop 9) (S2 x5 x6 none none x9 x10) [.orc (Orc.upd o 0 4 2), .scr []] = .ok (.ret (.val (.bool true))) [.orc (Orc.tl (Orc.upd o 0 4 2)), .scr []]) ∧ (execs (ex exF G) (B.drop 9) (S2 x5 x6 none none x9 x10) [.orc (Orc.upd o 0 4 3), .scr []] = .ok (.ret (.val (.bool true))) [.orc (Orc.tl (Orc.upd o 0 4 3)), .scr []]) := ⟨by kernel_rfl, by kernel_rfl, by kernel_rfl, by kernel_rfl⟩
theorem sf2 (x5 x6 x9 x10 : Option RV) (o : Orc) (ho : OkO o) : execs (ex exF G) (B.drop 9) (S2 x5 x6 none none x9 x10) [.orc o, .scr []] = .ok (.ret (.val (.bool true))) [.orc (Orc.tl o), .scr []] := by
  have h0 := ho 0 4 (by decide)
  have e := Orc.upd_self o 0 4
  generalize o 0 4 = a at h0 e
  have ea : a = 0 ∨ a = 1 ∨ a = 2 ∨ a = 3 := by omega
  obtain ⟨k0, k1, k2, k3⟩ := sfs2 x5 x6 x9 x10 o
  rcases ea with rfl | rfl | rfl | rfl
  · rw [e] at k0; exact k0
  · rw [e] at k1; exact k1
  · rw [e] at k2; exact k2
  · rw [e] at k3; exact k3
theorem all2 (o : Orc) (ho : OkO o) (h : o 0 9 = 2) : ∃ w', execs (ex exF G) B [V (spc 0), none, none, none, none, none, none, none, none, none, none] [.orc o] = .ok (.ret (.val (.bool true))) w' := by
  have e0 := Orc.upd_self o 0 9
  rw [h] at e0
  have p := pre2 o
  rw [e0] at p
  have eB : B = B.take 8 ++ (st8 :: B.drop 9) := rfl
  obtain ⟨a5, a10, q1⟩ := pr2 (.int 0) (V (.tuple [.str "groups", .int 3])) none none none (V (.int 0)) none (Orc.tl o) (okO_tl ho)
  obtain ⟨b5, b10, q2⟩ := pr2 (.int 1) a5 (V (.int 0)) none none (V (.int 0)) a10 (Orc.tl (Orc.tl (Orc.tl o))) (okO_tl (okO_tl (okO_tl ho)))
  have hl : ex exF G st8 (S2 (V (.tuple [.str "groups", .int 3])) none none none (V (.int 0)) none) [.orc (Orc.tl o), .scr []] = .ok (.nxt (S2 b5 (V (.int 1)) none none (V (.int 0)) b10)) [.orc (Orc.tl (Orc.tl (Orc.tl (Orc.tl (Orc.tl o))))), .scr []] := by
    rw [lp2]
    show (Fb (.int 0) _ _).bind _ = _
    rw [q1]
    show (Fb (.int 1) _ _).bind _ = _
    rw [q2]
    rfl
  have z := sf2 b5 (V (.int 1)) (V (.int 0)) b10 _ (okO_tl (okO_tl (okO_tl (okO_tl (okO_tl ho)))))
  have k := execs_app (b := st8 :: B.drop 9) p
  rw [← eB] at k
  refine ⟨[.orc (Orc.tl (Orc.tl (Orc.tl (Orc.tl (Orc.tl (Orc.tl o)))))), .scr []], k.trans ?_⟩
  show (ex exF G st8 _ _).bind _ = _
  rw [hl]
  exact z
abbrev rs3 : List D := [.tuple [.str "trimmed", .int 0], .tuple [.str "trimmed", .int 1], .tuple [.str "winsorized", .int 0], .tuple [.str "winsorized", .int 1], .tuple [.str "pairs", .int 0], .tuple [.str "groups", .int 1], .tuple [.str "groups", .int 2], .tuple [.str "groups", .int 4]]
abbrev S3 (x5 x6 x7 x8 x9 x10 : Option RV) : Sl := [V (spc 0), V (spc 1), V (.int 4), V (.list rs3), V (.int 1), x5, x6, x7, x8, x9, x10]
theorem pre3 (o : Orc) : execs (ex exF G) (B.take 8) [V (spc 0), none, none, none, none, none, none, none, none, none, none] [.orc (Orc.upd o 0 9 3)] = .ok (.nxt (S3 (V (.tuple [.str "groups", .int 4])) none none none (V (.int 0)) none)) [.orc (Orc.tl (Orc.upd o 0 9 3)), .scr []] := by kernel_rfl
theorem lp3 (x5 x6 x7 x8 x9 x10 : Option RV) (w : Wd) : ex exF G st8 (S3 x5 x6 x7 x8 x9 x10) w = forL Fb [.int 0, .int 1] (S3 x5 x6 x7 x8 x9 x10) w := by kernel_rfl
theorem pr3_0 (t : D) (x5 x6 x7 x8 x9 x10 : Option RV) (o : Orc) : (Fb t (S3 x5 x6 x7 x8 x9 x10) [.orc (Orc.upd (Orc.upd o 1 8 0) 0 8 0), .scr []] = .ok (.nxt (S3 (V (.tuple [.str "trimmed", .int 0])) (V t) x7 x8 x9 (V (.tuple [.str "trimmed", .int 0])))) [.orc (Orc.tl (Orc.tl (Orc.upd (Orc.upd o 1 8 0) 0 8 0))), .scr []]) ∧ (Fb t (S3 x5 x6 x7 x8 x9 x10) [.orc (Orc.upd (Orc.upd o 1 8 1) 0 8 0), .scr []] = .ok (.nxt (S3 (V (.tuple [.str "trimmed", .int 0])) (V t) x7 x8 x9 (V (.tuple [.str "trimmed", .int 1])))) [.orc (Orc.tl (Orc.tl (Orc.upd (Orc.upd o 1 8 1) 0 8 0))), .scr []]) ∧ (Fb t (S3 x5 x6 x7 x8 x9 x10) [.orc (Orc.upd (Orc.upd o 1 8 2) 0 8 0), .scr []] = .ok (.nxt (S3 (V (.tuple [.str "trimmed", .int 0])) (V t) x7 x8 x9 (V (.tuple [.str "winsorized", .int 0])))) [.orc (Orc.tl (Orc.tl (Orc.upd (Orc.upd o 1 8 2) 0 8 0))), .scr []]) ∧ (Fb t (S3 x5 x6 x7 x8 x9 x10) [.orc (Orc.upd (Orc.upd o 1 8 3) 0 8 0), .scr []] = .ok (.nxt (S3 (V (.tuple [.str "trimmed", .int 0])) (V t) x7 x8 x9 (V (.tuple [.str "winsorized", .int 1])))) [.orc (Orc.tl (Orc.tl (Orc.upd (Orc.upd o 1 8 3) 0 8 0))), .scr []]) ∧ (Fb t (S3 x5 x6 x7 x8 x9 x10) [.orc (Orc.upd (Orc.upd o 1 8 4) 0 8 0), .scr []] = .ok (.nxt (S3 (V (.tuple [.str "trimmed", .int 0])) (V t) x7 x8 x9 (V (.tuple [.str "pairs", .int 0])))) [.orc (Orc.tl (Orc.tl (Orc.upd (Orc.upd o 1 8 4) 0 8 0))), .scr []]) ∧ (Fb t (S3 x5 x6 x7 x8 x9 x10) [.orc (Orc.upd (Orc.upd o 1 8 5) 0 8 0), .scr []] = .ok (.nxt (S3 (V (.tuple [.str "trimmed", .int 0])) (V t) x7 x8 x9 (V (.tuple [.str "groups", .int 1])))) [.orc (Orc.tl (Orc.tl (Orc.upd (Orc.upd o 1 8 5) 0 8 0))), .scr []]) ∧ (Fb t (S3 x5 x6 x7 x8 x9 x10) [.orc (Orc.upd (Orc.upd o 1 8 6) 0 8 0), .scr []] = .ok (.nxt (S3 (V (.tuple [.str "trimmed", .int 0])) (V t) x7 x8 x9 (V (.tuple [.str "groups", .int 2])))) [.orc (Orc.tl (Orc.tl (Orc.upd (Orc.upd o 1 8 6) 0 8 0))), .scr []]) ∧ (Fb t (S3 x5 x6 x7 x8 x9 x10) [.orc (Orc.upd (Orc.upd o 1 8 7) 0 8 0), .scr []] = .ok (.nxt (S3 (V (.tuple [.str "trimmed", .int 0])) (V t) x7 x8 x9 (V (.tuple [.str "groups", .int 4])))) [.orc (Orc.tl (Orc.tl (Orc.upd (Orc.upd o 1 8 7) 0 8 0))), .scr []]) := ⟨by kernel_rfl, by kernel_rfl, by kernel_rfl, by kernel_rfl, by kernel_rfl, by kernel_rfl, by kernel_rfl, by kernel_rfl⟩
theorem pr3_1 (t : D) (x5 x6 x7 x8 x9 x10 : Option RV) (o : Orc) : (Fb t (S3 x5 x6 x7 x8 x9 x10) [.orc (Orc.upd (Orc.upd o 1 8 0) 0 8 1), .scr []] = .ok (.nxt (S3 (V (.tuple [.str "trimmed", .int 1])) (V t) x7 x8 x9 (V (.tuple [.str "trimmed", .int 0])))) [.orc (Orc.tl (Orc.tl (Orc.upd (Orc.upd o 1 8 0) 0 8 1))), .scr []]) ∧ (Fb t (S3 x5 x6 x7 x8 x9 x10) [.orc (Orc.upd (Orc.upd o 1 8 1) 0 8 1), .scr []] = .ok (.nxt (S3 (V (.tuple [.str "trimmed", .int 1])) (V t) x7 x8 x9 (V (.tuple [.str "trimmed", .int 1])))) [.orc (Orc.tl (Orc.tl (Orc.upd (Orc.upd o 1 8 1) 0 8 1))), .scr []]) ∧ (Fb t (S3 x5 x6 x7 x8 x9 x10) [.orc (Orc.upd (Orc.upd o 1 8 2) 0 8 1), .scr []] = .ok (.nxt (S3 (V (.tuple [.str "trimmed", .int 1])) (V t) x7 x8 x9 (V (.tuple [.str "winsorized", .int 0])))) [.orc (Orc.tl (Orc.tl (Orc.upd (Orc.upd o 1 8 2) 0 8 1))), .scr []]) ∧ (Fb t (S3 x5 x6 x7 x8 x9 x10) [.orc (Orc.upd (Orc.upd o 1 8 3) 0 8 1), .scr []] = .ok (.nxt (S3 (V (.tuple [.str "trimmed", .int 1])) (V t) x7 x8 x9 (V (.tuple [.str "winsorized", .int 1])))) [.orc (Orc.tl (Orc.tl (Orc.upd (Orc.upd o 1 8 3) 0 8 1))), .scr []]) ∧ (Fb t (S3 x5 x6 x7 x8 x9 x10) [.orc (Orc.upd (Orc.upd o 1 8 4) 0 8 1), .scr []] = .ok (.nxt (S3 (V (.tuple [.str "trimmed", .int 1])) (V t) x7 x8 x9 (V (.tuple [.str "pairs", .int 0])))) [.orc (Orc.tl (Orc.tl (Orc.upd (Orc.upd o 1 8 4) 0 8 1))), .scr []]) ∧ (Fb t (S3 x5 x6 x7 x8 x9 x10) [.orc (Orc.upd (Orc.upd o 1 8 5) 0 8 1), .scr []] = .ok (.nxt (S3 (V (.tuple [.str "trimmed", .int 1])) (V t) x7 x8 x9 (V (.tuple [.str "groups", .int 1])))) [.orc (Orc.tl (Orc.tl (Orc.upd (Orc.upd o 1 8 5) 0 8 1))), .scr []]) ∧ (Fb t (S3 x5 x6 x7 x8 x9 x10) [.orc (Orc.upd (Orc.upd o 1 8 6) 0 8 1), .scr []] = .ok (.nxt (S3 (V (.tuple [.str "trimmed", .int 1])) (V t) x7 x8 x9 (V (.tuple [.str "groups", .int 2])))) [.orc (Orc.tl (Orc.tl (Orc.upd (Orc.upd o 1 8 6) 0 8 1))), .scr []]) ∧ (Fb t (S3 x5 x6 x7 x8 x9 x10) [.orc (Orc.upd (Orc.upd o 1 8 7) 0 8 1), .scr []] = .ok (.nxt (S3 (V (.tuple [.str "trimmed", .int 1])) (V t) x7 x8 x9 (V (.tuple [.str "groups", .int 4])))) [.orc (Orc.tl (Orc.tl (Orc.upd (Orc.upd o 1 8 7) 0 8 1))), .scr []]) := ⟨by kernel_rfl, by kernel_rfl, by kernel_rfl, by kernel_rfl, by kernel_rfl, by kernel_rfl, by kernel_rfl, by kernel_rfl⟩
theorem pr3_2 (t : D) (x5 x6 x7 x8 x9 x10 : Option RV) (o : Orc) : (Fb t (S3 x5 x6 x7 x8 x9 x10) [.orc (Orc.upd (Orc.upd o 1 8 0) 0 8 2), .scr []] = .ok (.nxt (S3 (V (.tuple [.str "winsorized", .int 0])) (V t) x7 x8 x9 (V (.tuple [.str "trimmed", .int 0])))) [.orc (Orc.tl (Orc.tl (Orc.upd (Orc.upd o 1 8 0) 0 8 2))), .scr []]) ∧ (Fb t (S3 x5 x6 x7 x8 x9 x10) [.orc (Orc.upd (Orc.upd o 1 8 1) 0 8 2), .scr []] = .ok (.nxt (S3 (V (.tuple [.str "winsorized", .int 0])) (V t) x7 x8 x9 (V (.tuple [.str "trimmed", .int 1])))) [.orc (Orc.tl (Orc.tl (Orc.upd (Orc.upd o 1 8 1) 0 8 2))), .scr []]) ∧ (Fb t (S3 x5 x6 x7 x8 x9 x10) [.orc (Orc.upd (Orc.upd o 1 8 2) 0 8 2), .scr []] = .ok (.nxt (S3 (V (.tuple [.str "winsorized", .int 0])) (V t) x7 x8 x9 (V (.tuple [.str "winsorized", .int 0])))) [.orc (Orc.tl (Orc.tl (Orc.upd (Orc.upd o 1 8 2) 0 8 2))), .scr []]) ∧ (Fb t (S3 x5 x6 x7 x8 x9 x10) [.orc (Orc.upd (Orc.upd o 1 8 3) 0 8 2), .scr []] = .ok (.nxt (S3 (V (.tuple [.str "winsorized", .int 0])) (V t) x7 x8 x9 (V (.tuple [.str "winsorized", .int 1])))) [.orc (Orc.tl (Orc.tl (Orc.upd (Orc.upd o 1 8 3) 0 8 2))), .scr []]) ∧ (Fb t (S3 x5 x6 x7 x8 x9 x10) [.orc (Orc.upd (Orc.upd o 1 8 4) 0 8 2), .scr []] = .ok (.nxt (S3 (V (.tuple [.str "winsorized", .int 0])) (V t) x7 x8 x9 (V (.tuple [.str "pairs", .int 0])))) [.orc (Orc.tl (Orc.tl (Orc.upd (Orc.upd o 1 8 4) 0 8 2))), .scr []]) ∧ (Fb t (S3 x5 x6 x7 x8 x9 x10) [.orc (Orc.upd (Orc.upd o 1 8 5) 0 8 2), .scr []] = .ok (.nxt (S3 (V (.tuple [.str "winsorized", .int 0])) (V t) x7 x8 x9 (V (.tuple [.str "groups", .int 1])))) [.orc (Orc.tl (Orc.tl (Orc.upd (Orc.upd o 1 8 5) 0 8 2))), .scr []]) ∧ (Fb t (S3 x5 x6 x7 x8 x9 x10) [.orc (Orc.upd (Orc.upd o 1 8 6) 0 8 2), .scr []] = .ok (.nxt (S3 (V (.tuple [.str "winsorized", .int 0])) (V t) x7 x8 x9 (V (.tuple [.str "groups", .int 2])))) [.orc (Orc.tl (Orc.tl (Orc.upd (Orc.upd o 1 8 6) 0 8 2))), .scr []]) ∧ (Fb t (S3 x5 x6 x7 x8 x9 x10) [.orc (Orc.upd (Orc.upd o 1 8 7) 0 8 2), .scr []] = .ok (.nxt (S3 (V (.tuple [.str "winsorized", .int 0])) (V t) x7 x8 x9 (V (.tuple [.str "groups", .int 4])))) [.orc (Orc.tl (Orc.tl (Orc.upd (Orc.upd o 1 8 7) 0 8 2))), .scr []]) := ⟨by kernel_rfl, by kernel_rfl, by kernel_rfl, by kernel_rfl, by kernel_rfl, by kernel_rfl, by kernel_rfl, by kernel_rfl⟩
theorem pr3_3 (t : D) (x5 x6 x7 x8 x9 x10 : Option RV) (o : Orc) : (Fb t (S3 x5 x6 x7 x8 x9 x10) [.orc (Orc.upd (Orc.upd o 1 8 0) 0 8 3), .scr []] = .ok (.nxt (S3 (V (.tuple [.str "winsorized", .int 1])) (V t) x7 x8 x9 (V (.tuple [.str "trimmed", .int 0])))) [.orc (Orc.tl (Orc.tl (Orc.upd (Orc.upd o 1 8 0) 0 8 3))), .scr []]) ∧ (Fb t (S3 x5 x6 x7 x8 x9 x10) [.orc (Orc.upd (Orc.upd o 1 8 1) 0 8 3), .scr []] = .ok (.nxt (S3 (V (.tuple [.str "winsorized", .int 1])) (V t) x7 x8 x9 (V (.tuple [.str "trimmed", .int 1])))) [.orc (Orc.tl (Orc.tl (Orc.upd (Orc.upd o 1 8 1) 0 8 3))), .scr []]) ∧ (Fb t (S3 x5 x6 x7 x8 x9 x10) [.orc (Orc.upd (Orc.upd o 1 8 2) 0 8 3), .scr []] = .ok (.nxt (S3 (V (.tuple [.str "winsorized", .int 1])) (V t) x7 x8 x9 (V (.tuple [.str "winsorized", .int 0])))) [.orc (Orc.tl (Orc.tl (Orc.upd (Orc.upd o 1 8 2) 0 8 3))), .scr []]) ∧ (Fb t (S3 x5 x6 x7 x8 x9 x10) [.orc (Orc.upd (Orc.upd o 1 8 3) 0 8 3), .scr []] = .ok (.nxt (S3 (V (.tuple [.str "winsorized", .int 1])) (V t) x7 x8 x9 (V (.tuple [.str "winsorized", .int 1])))) [.orc (Orc.tl (Orc.tl (Orc.upd (Orc.upd o 1 8 3) 0 8 3))), .scr []]) ∧ (Fb t (S3 x5 x6 x7 x8 x9 x10) [.orc (Orc.upd (Orc.upd o 1 8 4) 0 8 3), .scr []] = .ok (.nxt (S3 (V (.tuple [.str "winsorized", .int 1])) (V t) x7 x8 x9 (V (.tuple [.str "pairs", .int 0])))) [.orc (Orc.tl (Orc.tl (Orc.upd (Orc.upd o 1 8 4) 0 8 3))), .scr []]) ∧ (Fb t (S3 x5 x6 x7 x8 x9 x10) [.orc (Orc.upd (Orc.upd o 1 8 5) 0 8 3), .scr []] = .ok (.nxt (S3 (V (.tuple [.str "winsorized", .int 1])) (V t) x7 x8 x9 (V (.tuple [.str "groups", .int 1])))) [.orc (Orc.tl (Orc.tl (Orc.upd (Orc.upd o 1 8 5) 0 8 3))), .scr []]) ∧ (Fb t (S3 x5 x6 x7 x8 x9 x10) [.orc (Orc.upd (Orc.upd o 1 8 6) 0 8 3), .scr []] = .ok (.nxt (S3 (V (.tuple [.str "winsorized", .int 1])) (V t) x7 x8 x9 (V (.tuple [.str "groups", .int 2])))) [.orc (Orc.tl (Orc.tl (Orc.upd (Orc.upd o 1 8 6) 0 8 3))), .scr []]) ∧ (Fb t (S3 x5 x6 x7 x8 x9 x10) [.orc (Orc.upd (Orc.upd o 1 8 7) 0 8 3), .scr []] = .ok (.nxt (S3 (V (.tuple [.str "winsorized", .int 1])) (V t) x7 x8 x9 (V (.tuple [.str "groups", .int 4])))) [.orc (Orc.tl (Orc.tl (Orc.upd (Orc.upd o 1 8 7) 0 8 3))), .scr []]) := ⟨by kernel_rfl, by kernel_rfl, by kernel_rfl, by kernel_rfl, by kernel_rfl, by kernel_rfl, by kernel_rfl, by kernel_rfl⟩
theorem pr3_4 (t : D) (x5 x6 x7 x8 x9 x10 : Option RV) (o : Orc) : (Fb t (S3 x5 x6 x7 x8 x9 x10) [.orc (Orc.upd (Orc.upd o 1 8 0) 0 8 4), .scr []] = .ok (.nxt (S3 (V (.tuple [.str "pairs", .int 0])) (V t) x7 x8 x9 (V (.tuple [.str "trimmed", .int 0])))) [.orc (Orc.tl (Orc.tl (Orc.upd (Orc.upd o 1 8 0) 0 8 4))), .scr []]) ∧ (Fb t (S3 x5 x6 x7 x8 x9 x10) [.orc (Orc.upd (Orc.upd o 1 8 1) 0 8 4), .scr []] = .ok (.nxt (S3 (V (.tuple [.str "pairs", .int 0])) (V t) x7 x8 x9 (V (.tuple [.str "trimmed", .int 1])))) [.orc (Orc.tl (Orc.tl (Orc.upd (Orc.upd o 1 8 1) 0 8 4))), .scr []]) ∧ (Fb t (S3 x5 x6 x7 x8 x9 x10) [.orc (Orc.upd (Orc.upd o 1 8 2) 0 8 4), .scr []] = .ok (.nxt (S3 (V (.tuple [.str "pairs", .int 0])) (V t) x7 x8 x9 (V (.tuple [.str "winsorized", .int 0])))) [.orc (Orc.tl (Orc.tl (Orc.upd (Orc.upd o 1 8 2) 0 8 4))), .scr []]) ∧ (Fb t (S3 x5 x6 x7 x8 x9 x10) [.orc (Orc.upd (Orc.upd o 1 8 3) 0 8 4), .scr []] = .ok (.nxt (S3 (V (.tuple [.str "pairs", .int 0])) (V t) x7 x8 x9 (V (.tuple [.str "winsorized", .int 1])))) [.orc (Orc.tl (Orc.tl (Orc.upd (Orc.upd o 1 8 3) 0 8 4))), .scr []]) ∧ (Fb t (S3 x5 x6 x7 x8 x9 x10) [.orc (Orc.upd (Orc.upd o 1 8 4) 0 8 4), .scr []] = .ok (.nxt (S3 (V (.tuple [.str "pairs", .int 0])) (V t) x7 x8 x9 (V (.tuple [.str "pairs", .int 0])))) [.orc (Orc.tl (Orc.tl (Orc.upd (Orc.upd o 1 8 4) 0 8 4))), .scr []]) ∧ (Fb t (S3 x5 x6 x7 x8 x9 x10) [.orc (Orc.upd (Orc.upd o 1 8 5) 0 8 4), .scr []] = .ok (.nxt (S3 (V (.tuple [.str "pairs", .int 0])) (V t) x7 x8 x9 (V (.tuple [.str "groups", .int 1])))) [.orc (Orc.tl (Orc.tl (Orc.upd (Orc.upd o 1 8 5) 0 8 4))), .scr []]) ∧ (Fb t (S3 x5 x6 x7 x8 x9 x10) [.orc (Orc.upd (Orc.upd o 1 8 6) 0 8 4), .scr []] = .ok (.nxt (S3 (V (.tuple [.str "pairs", .int 0])) (V t) x7 x8 x9 (V (.tuple [.str "groups", .int 2])))) [.orc (Orc.tl (Orc.tl (Orc.upd (Orc.upd o 1 8 6) 0 8 4))), .scr []]) ∧ (Fb t (S3 x5 x6 x7 x8 x9 x10) [.orc (Orc.upd (Orc.upd o 1 8 7) 0 8 4), .scr []] = .ok (.nxt (S3 (V (.tuple [.str "pairs", .int 0])) (V t) x7 x8 x9 (V (.tuple [.str "groups", .int 4])))) [.orc (Orc.tl (Orc.tl (Orc.upd (Orc.upd o 1 8 7) 0 8 4))), .scr []]) := ⟨by kernel_rfl, by kernel_rfl, by kernel_rfl, by kernel_rfl, by kernel_rfl, by kernel_rfl, by kernel_rfl, by kernel_rfl⟩
theorem pr3_5 (t : D) (x5 x6 x7 x8 x9 x10 : Option RV) (o : Orc) : (Fb t (S3 x5 x6 x7 x8 x9 x10) [.orc (Orc.upd (Orc.upd o 1 8 0) 0 8 5), .scr []] = .ok (.nxt (S3 (V (.tuple [.str "groups", .int 1])) (V t) x7 x8 x9 (V (.tuple [.str "trimmed", .int 0])))) [.orc (Orc.tl (Orc.tl (Orc.upd (Orc.upd o 1 8 0) 0 8 5))), .scr []]) ∧ (Fb t (S3 x5 x6 x7 x8 x9 x10) [.orc (Orc.upd (Orc.upd o 1 8 1) 0 8 5), .scr []] = .ok (.nxt (S3 (V (.tuple [.str "groups", .int 1])) (V t) x7 x8 x9 (V (.tuple [.str "trimmed", .int 1])))) [.orc (Orc.tl (Orc.tl (Orc.upd (Orc.upd o 1 8 1) 0 8 5))), .scr []]) ∧ (Fb t (S3 x5 x6 x7 x8 x9 x10) [.orc (Orc.upd (Orc.upd o 1 8 2) 0 8 5), .scr []] = .ok (.nxt (S3 (V (.tuple [.str "groups", .int 1])) (V t) x7 x8 x9 (V (.tuple [.str "winsorized", .int 0])))) [.orc (Orc.tl (Orc.tl (Orc.upd (Orc.upd o 1 8 2) 0 8 5))), .scr []]) ∧ (Fb t (S3 x5 x6 x7 x8 x9 x10) [.orc (Orc.upd (Orc.upd o 1 8 3) 0 8 5), .scr []] = .ok (.nxt (S3 (V (.tuple [.str "groups", .int 1])) (V t) x7 x8 x9 (V (.tuple [.str "winsorized", .int 1])))) [.orc (Orc.tl (Orc.tl (Orc.upd (Orc.upd o 1 8 3) 0 8 5))), .scr []]) ∧ (Fb t (S3 x5 x6 x7 x8 x9 x10) [.orc (Orc.upd (Orc.upd o 1 8 4) 0 8 5), .scr []] = .ok (.nxt (S3 (V (.tuple [.str "groups", .int 1])) (V t) x7 x8 x9 (V (.tuple [.str "pairs", .int 0])))) [.orc (Orc.tl (Orc.tl (Orc.upd (Orc.upd o 1 8 4) 0 8 5))), .scr []]) ∧ (Fb t (S3 x5 x6 x7 x8 x9 x10) [.orc (Orc.upd (Orc.upd o 1 8 5) 0 8 5), .scr []] = .ok (.nxt (S3 (V (.tuple [.str "groups", .int 1])) (V t) x7 x8 x9 (V (.tuple [.str "groups", .int 1])))) [.orc (Orc.tl (Orc.tl (Orc.upd (Orc.upd o 1 8 5) 0 8 5))), .scr []]) ∧ (Fb t (S3 x5 x6 x7 x8 x9 x10) [.orc (Orc.upd (Orc.upd o 1 8 6) 0 8 5), .scr []] = .ok (.nxt (S3 (V (.tuple [.str "groups", .int 1])) (V t) x7 x8 x9 (V (.tuple [.str "groups", .int 2])))) [.orc (Orc.tl (Orc.tl (Orc.upd (Orc.upd o 1 8 6) 0 8 5))), .scr []]) ∧ (Fb t (S3 x5 x6 x7 x8 x9 x10) [.orc (Orc.upd (Orc.upd o 1 8 7) 0 8 5), .scr []] = .ok (.nxt (S3 (V (.tuple [.str "groups", .int 1])) (V t) x7 x8 x9 (V (.tuple [.str "groups", .int 4])))) [.orc (Orc.tl (Orc.tl (Orc.upd (Orc.upd o 1 8 7) 0 8 5))), .scr []]) := ⟨by kernel_rfl, by kernel_rfl, by kernel_rfl, by kernel_rfl, by kernel_rfl, by kernel_rfl, by kernel_rfl, by kernel_rfl⟩
theorem pr3_6 (t : D) (x5 x6 x7 x8 x9 x10 : Option RV) (o : Orc) : (Fb t (S3 x5 x6 x7 x8 x9 x10) [.orc (Orc.upd (Orc.upd o 1 8 0) 0 8 6), .scr []] = .ok (.nxt (S3 (V (.tuple [.str "groups", .int 2])) (V t) x7 x8 x9 (V (.tuple [.str "trimmed", .int 0])))) [.orc (Orc.tl (Orc.tl (Orc.upd (Orc.upd o 1 8 0) 0 8 6))), .scr []]) ∧ (Fb t (S3 x5 x6 x7 x8 x9 x10) [.orc (Orc.upd (Orc.upd o 1 8 1) 0 8 6), .scr []] = .ok (.nxt (S3 (V (.tuple [.str "groups", .int 2])) (V t) x7 x8 x9 (V (.tuple [.str "trimmed", .int 1])))) [.orc (Orc.tl (Orc.tl (Orc.upd (Orc.upd o 1 8 1) 0 8 6))), .scr []]) ∧ (Fb t (S3 x5 x6 x7 x8 x9 x10) [.orc (Orc.upd (Orc.upd o 1 8 2) 0 8 6), .scr []] = .ok (.nxt (S3 (V (.tuple [.str "groups", .int 2])) (V t) x7 x8 x9 (V (.tuple [.str "winsorized", .int 0])))) [.orc (Orc.tl (Orc.tl (Orc.upd (Orc.upd o 1 8 2) 0 8 6))), .scr []]) ∧ (Fb t (S3 x5 x6 x7 x8 x9 x10) [.orc (Orc.upd (Orc.upd o 1 8 3) 0 8 6), .scr []] = .ok (.nxt (S3 (V (.tuple [.str "groups", .int 2])) (V t) x7 x8 x9 (V (.tuple [.str "winsorized", .int 1])))) [.orc (Orc.tl (Orc.tl (Orc.upd (Orc.upd o 1 8 3) 0 8 6))), .scr []]) ∧ (Fb t (S3 x5 x6 x7 x8 x9 x10) [.orc (Orc.upd (Orc.upd o 1 8 4) 0 8 6), .scr []] = .ok (.nxt (S3 (V (.tuple [.str "groups", .int 2])) (V t) x7 x8 x9 (V (.tuple [.str "pairs", .int 0])))) [.orc (Orc.tl (Orc.tl (Orc.upd (Orc.upd o 1 8 4) 0 8 6))), .scr []]) ∧ (Fb t (S3 x5 x6 x7 x8 x9 x10) [.orc (Orc.upd (Orc.upd o 1 8 5) 0 8 6), .scr []] = .ok (.nxt (S3 (V (.tuple [.str "groups", .int 2])) (V t) x7 x8 x9 (V (.tuple [.str "groups", .int 1])))) [.orc (Orc.tl (Orc.tl (Orc.upd (Orc.upd o 1 8 5) 0 8 6))), .scr []]) ∧ (Fb t (S3 x5 x6 x7 x8 x9 x10) [.orc (Orc.upd (Orc.upd o 1 8 6) 0 8 6), .scr []] = .ok (.nxt (S3 (V (.tuple [.str "groups", .int 2])) (V t) x7 x8 x9 (V (.tuple [.str "groups", .int 2])))) [.orc (Orc.tl (Orc.tl (Orc.upd (Orc.upd o 1 8 6) 0 8 6))), .scr []]) ∧ (Fb t (S3 x5 x6 x7 x8 x9 x10) [.orc (Orc.upd (Orc.upd o 1 8 7) 0 8 6), .scr []] = .ok (.nxt (S3 (V (.tuple [.str "groups", .int 2])) (V t) x7 x8 x9 (V (.tuple [.str "groups", .int 4])))) [.orc (Orc.tl (Orc.tl (Orc.upd (Orc.upd o 1 8 7) 0 8 6))), .scr []]) := ⟨by kernel_rfl, by kernel_rfl, by kernel_rfl, by kernel_rfl, by kernel_rfl, by kernel_rfl, by kernel_rfl, by kernel_rfl⟩
theorem pr3_7 (t : D) (x5 x6 x7 x8 x9 x10 : Option RV) (o : Orc) : (Fb t (S3 x5 x6 x7 x8 x9 x10) [.orc (Orc.upd (Orc.upd o 1 8 0) 0 8 7), .scr []] = .ok (.nxt (S3 (V (.tuple [.str "groups", .int 4])) (V t) x7 x8 x9 (V (.tuple [.str "trimmed", .int 0])))) [.orc (Orc.tl (Orc.tl (Orc.upd (Orc.upd o 1 8 0) 0 8 7))), .scr []]) ∧ (Fb t (S3 x5 x6 x7 x8 x9 x10) [.orc (Orc.upd (Orc.upd o 1 8 1) 0 8 7), .scr []] = .ok (.nxt (S3 (V (.tuple [.str "groups", .int 4])) (V t) x7 x8 x9 (V (.tuple [.str "trimmed", .int 1])))) [.orc (Orc.tl (Orc.tl (Orc.upd (Orc.upd o 1 8 1) 0 8 7))), .scr []]) ∧ (Fb t (S3 x5 x6 x7 x8 x9 x10) [.orc (Orc.upd (Orc.upd o 1 8 2) 0 8 7), .scr []] = .ok (.nxt (S3 (V (.tuple [.str "groups", .int 4])) (V t) x7 x8 x9 (V (.tuple [.str "winsorized", .int 0])))) [.orc (Orc.tl (Orc.tl (Orc.upd (Orc.upd o 1 8 2) 0 8 7))), .scr []]) ∧ (Fb t (S3 x5 x6 x7 x8 x9 x10) [.orc (Orc.upd (Orc.upd o 1 8 3) 0 8 7), .scr []] = .ok (.nxt (S3 (V (.tuple [.str "groups", .int 4])) (V t) x7 x8 x9 (V (.tuple [.str "winsorized", .int 1])))) [.orc (Orc.tl (Orc.tl (Orc.upd (Orc.upd o 1 8 3) 0 8 7))), .scr []]) ∧ (Fb t (S3 x5 x6 x7 x8 x9 x10) [.orc (Orc.upd (Orc.upd o 1 8 4) 0 8 7), .scr []] = .ok (.nxt (S3 (V (.tuple [.str "groups", .int 4])) (V t) x7 x8 x9 (V (.tuple [.str "pairs", .int 0])))) [.orc (Orc.tl (Orc.tl (Orc.upd (Orc.upd o 1 8 4) 0 8 7))), .scr []]) ∧ (Fb t (S3 x5 x6 x7 x8 x9 x10) [.orc (Orc.upd (Orc.upd o 1 8 5) 0 8 7), .scr []] = .ok (.nxt (S3 (V (.tuple [.str "groups", .int 4])) (V t) x7 x8 x9 (V (.tuple [.str "groups", .int 1])))) [.orc (Orc.tl (Orc.tl (Orc.upd (Orc.upd o 1 8 5) 0 8 7))), .scr []]) ∧ (Fb t (S3 x5 x6 x7 x8 x9 x10) [.orc (Orc.upd (Orc.upd o 1 8 6) 0 8 7), .scr []] = .ok (.nxt (S3 (V (.tuple [.str "groups", .int 4])) (V t) x7 x8 x9 (V (.tuple [.str "groups", .int 2])))) [.orc (Orc.tl (Orc.tl (Orc.upd (Orc.upd o 1 8 6) 0 8 7))), .scr []]) ∧ (Fb t (S3 x5 x6 x7 x8 x9 x10) [.orc (Orc.upd (Orc.upd o 1 8 7) 0 8 7), .scr []] = .ok (.nxt (S3 (V (.tuple [.str "groups", .int 4])) (V t) x7 x8 x9 (V (.tuple [.str "groups", .int 4])))) [.orc (Orc.tl (Orc.tl (Orc.upd (Orc.upd o 1 8 7) 0 8 7))), .scr []]) := ⟨by kernel_rfl, by kernel_rfl, by kernel_rfl, by kernel_rfl, by kernel_rfl, by kernel_rfl, by kernel_rfl, by kernel_rfl⟩
theorem pr3 (t : D) (x5 x6 x7 x8 x9 x10 : Option RV) (o : Orc) (ho : OkO o) : ∃ y5 y10, Fb t (S3 x5 x6 x7 x8 x9 x10) [.orc o, .scr []] = .ok (.nxt (S3 y5 (V t) x7 x8 x9 y10)) [.orc (Orc.tl (Orc.tl o)), .scr []] := by
  have h0 := ho 0 8 (by decide)
  have h1 := ho 1 8 (by decide)
  have e := Orc.upd_self o 1 8
  have e2 := Orc.upd_self o 0 8
  generalize o 0 8 = a at h0 e2
  generalize o 1 8 = b at h1 e
  have ea : a = 0 ∨ a = 1 ∨ a = 2 ∨ a = 3 ∨ a = 4 ∨ a = 5 ∨ a = 6 ∨ a = 7 := by omega
  have eb : b = 0 ∨ b = 1 ∨ b = 2 ∨ b = 3 ∨ b = 4 ∨ b = 5 ∨ b = 6 ∨ b = 7 := by omega
  rcases ea with rfl | rfl | rfl | rfl | rfl | rfl | rfl | rfl
  · obtain ⟨k0, k1, k2, k3, k4, k5, k6, k7⟩ := pr3_0 t x5 x6 x7 x8 x9 x10 o
    rcases eb with rfl | rfl | rfl | rfl | rfl | rfl | rfl | rfl
    · rw [e, e2] at k0; exact ⟨_, _, k0⟩
    · rw [e, e2] at k1; exact ⟨_, _, k1⟩
    · rw [e, e2] at k2; exact ⟨_, _, k2⟩
    · rw [e, e2] at k3; exact ⟨_, _, k3⟩
    · rw [e, e2] at k4; exact ⟨_, _, k4⟩
    · rw [e, e2] at k5; exact ⟨_, _, k5⟩
    · rw [e, e2] at k6; exact ⟨_, _, k6⟩
    · rw [e, e2] at k7; exact ⟨_, _, k7⟩
  · obtain ⟨k0, k1, k2, k3, k4, k5, k6, k7⟩ := pr3_1 t x5 x6 x7 x8 x9 x10 o
    rcases eb with rfl | rfl | rfl | rfl | rfl | rfl | rfl | rfl
    · rw [e, e2] at k0; exact ⟨_, _, k0⟩
    · rw [e, e2] at k1; exact ⟨_, _, k1⟩
    · rw [e, e2] at k2; exact ⟨_, _, k2⟩
    · rw [e, e2] at k3; exact ⟨_, _, k3⟩
    · rw [e, e2] at k4; exact ⟨_, _, k4⟩
    · rw [e, e2] at k5; exact ⟨_, _, k5⟩
    · rw [e, e2] at k6; exact ⟨_, _, k6⟩
    · rw [e, e2] at k7; exact ⟨_, _, k7⟩
  · obtain ⟨k0, k1, k2, k3, k4, k5, k6, k7⟩ := pr3_2 t x5 x6 x7 x8 x9 x10 o
    rcases eb with rfl | rfl | rfl | rfl | rfl | rfl | rfl | rfl
    · rw [e, e2] at k0; exact ⟨_, _, k0⟩
    · rw [e, e2] at k1; exact ⟨_, _, k1⟩
    · rw [e, e2] at k2; exact ⟨_, _, k2⟩
    · rw [e, e2] at k3; exact ⟨_, _, k3⟩
    · rw [e, e2] at k4; exact ⟨_, _, k4⟩
    · rw [e, e2] at k5; exact ⟨_, _, k5⟩
    · rw [e, e2] at k6; exact ⟨_, _, k6⟩
    · rw [e, e2] at k7; exact ⟨_, _, k7⟩
  · obtain ⟨k0, k1, k2, k3, k4, k5, k6, k7⟩ := pr3_3 t x5 x6 x7 x8 x9 x10 o
    rcases eb with rfl | rfl | rfl | rfl | rfl | rfl | rfl | rfl
    · rw [e, e2] at k0; exact ⟨_, _, k0⟩
    · rw [e, e2] at k1; exact ⟨_, _, k1⟩
    · rw [e, e2] at k2; exact ⟨_, _, k2⟩
    · rw [e, e2] at k3; exact ⟨_, _, k3⟩
    · rw [e, e2] at k4; exact ⟨_, _, k4⟩
    · rw [e, e2] at k5; exact ⟨_, _, k5⟩
    · rw [e, e2] at k6; exact ⟨_, _, k6⟩
    · rw [e, e2] at k7; exact ⟨_, _, k7⟩
  · obtain ⟨k0, k1, k2, k3, k4, k5, k6, k7⟩ := pr3_4 t x5 x6 x7 x8 x9 x10 o
    rcases eb with rfl | rfl | rfl | rfl | rfl | rfl | rfl | rfl
    · rw [e, e2] at k0; exact ⟨_, _, k0⟩
    · rw [e, e2] at k1; exact ⟨_, _, k1⟩
    · rw [e, e2] at k2; exact ⟨_, _, k2⟩
    · rw [e, e2] at k3; exact ⟨_, _, k3⟩
    · rw [e, e2] at k4; exact ⟨_, _, k4⟩
    · rw [e, e2] at k5; exact ⟨_, _, k5⟩
    · rw [e, e2] at k6; exact ⟨_, _, k6⟩
    · rw [e, e2] at k7; exact ⟨_, _, k7⟩
  · obtain ⟨k0, k1, k2, k3, k4, k5, k6, k7⟩ := pr3_5 t x5 x6 x7 x8 x9 x10 o
    rcases eb with rfl | rfl | rfl | rfl | rfl | rfl | rfl | rfl
    · rw [e, e2] at k0; exact ⟨_, _, k0⟩
    · rw [e, e2] at k1; exact ⟨_, _, k1⟩
    · rw [e, e2] at k2; exact ⟨_, _, k2⟩
    · rw [e, e2] at k3; exact ⟨_, _, k3⟩
    · rw [e, e2] at k4; exact ⟨_, _, k4⟩
    · rw [e, e2] at k5; exact ⟨_, _, k5⟩
    · rw [e, e2] at k6; exact ⟨_, _, k6⟩
    · rw [e, e2] at k7; exact ⟨_, _, k7⟩
  · obtain ⟨k0, k1, k2, k3, k4, k5, k6, k7⟩ := pr3_6 t x5 x6 x7 x8 x9 x10 o
    rcases eb with rfl | rfl | rfl | rfl | rfl | rfl | rfl | rfl
    · rw [e, e2] at k0; exact ⟨_, _, k0⟩
    · rw [e, e2] at k1; exact ⟨_, _, k1⟩
    · rw [e, e2] at k2; exact ⟨_, _, k2⟩
    · rw [e, e2] at k3; exact ⟨_, _, k3⟩
    · rw [e, e2] at k4; exact ⟨_, _, k4⟩
    · rw [e, e2] at k5; exact ⟨_, _, k5⟩
    · rw [e, e2] at k6; exact ⟨_, _, k6⟩
    · rw [e, e2] at k7; exact ⟨_, _, k7⟩
  · obtain ⟨k0, k1, k2, k3, k4, k5, k6, k7⟩ := pr3_7 t x5 x6 x7 x8 x9 x10 o
    rcases eb with rfl | rfl | rfl | rfl | rfl | rfl | rfl | rfl
    · rw [e, e2] at k0; exact ⟨_, _, k0⟩
    · rw [e, e2] at k1; exact ⟨_, _, k1⟩
    · rw [e, e2] at k2; exact ⟨_, _, k2⟩
    · rw [e, e2] at k3; exact ⟨_, _, k3⟩
    · rw [e, e2] at k4; exact ⟨_, _, k4⟩
    · rw [e, e2] at k5; exact ⟨_, _, k5⟩
    · rw [e, e2] at k6; exact ⟨_, _, k6⟩
    · rw [e, e2] at k7; exact ⟨_, _, k7⟩
theorem sfs3 (x5 x6 x9 x10 : Option RV) (o : Orc) : (execs (ex exF G) (B.drop 9) (S3 x5 x6 none none x9 x10) [.orc (Orc.upd o 0 5 0), .scr []] = .ok (.ret (.val (.bool true))) [.orc (Orc.tl (Orc.upd o 0 5 0)), .scr []]) ∧ (execs (ex exF G) (B.drop 9) (S3 x5 x6 none none x9 x10) [.orc (Orc.upd o 0 5 1), .scr []] = .ok (.ret (.val (.bool true))) [.orc (Orc.tl (Orc.upd o 0 5 1)), .scr []]) ∧ (execs (ex exF G) (B.drop 9) (S3 x5 x6 none none x9 x10) [.orc (Orc.upd o 0 5 2), .scr []] = .ok (.ret (.val (.bool true))) [.orc (Orc.tl (Orc.upd o 0 5 2)), .scr []]) ∧ (execs (ex exF G) (B.drop 9) (S3 x5 x6 none none x9 x10) [.orc (Orc.upd o 0 5 3), .scr []] = .ok (.ret (.val (.bool true))) [.orc (Orc.tl (Orc.upd o 0 5 3)), .scr []]) ∧ (execs (ex exF G) (B.drop 9) (S3 x5 x6 none none x9 x10) [.orc (Orc.upd o 0 5 4), .scr []] = .ok (.ret (.val (.bool true))) [.orc (Orc.tl (Orc.upd o 0 5 4)), .scr []]) := ⟨by kernel_rfl, by kernel_rfl, by kernel_rfl, by kernel_rfl, by kernel_rfl⟩
theorem sf3 (x5 x6 x9 x10 : Option RV) (o : Orc) (ho : OkO o) : execs (ex exF G) (B.drop 9) (S3 x5 x6 none none x9 x10) [.orc o, .scr []] = .ok (.ret (.val (.bool true))) [.orc (Orc.tl o), .scr []] := by
  have h0 := ho 0 5 (by decide)
  have e := Orc.upd_self o 0 5
  generalize o 0 5 = a at h0 e
  have ea : a = 0 ∨ a = 1 ∨ a = 2 ∨ a = 3 ∨ a = 4 := by omega
  obtain ⟨k0, k1, k2, k3, k4⟩ := sfs3 x5 x6 x9 x10 o
  rcases ea with rfl | rfl | rfl | rfl | rfl
  · rw [e] at k0; exact k0
  · rw [e] at k1; exact k1
  · rw [e] at k2; exact k2
  · rw [e] at k3; exact k3
  · rw [e] at k4; exact k4
theorem all3 (o : Orc) (ho : OkO o) (h : o 0 9 = 3) : ∃ w', execs (ex exF G) B [V (spc 0), none, none, none, none, none, none, none, none, none, none] [.orc o] = .ok (.ret (.val (.bool true))) w' := by
  have e0 := Orc.upd_self o 0 9
  rw [h] at e0
  have p := pre3 o
  rw [e0] at p
  have eB : B = B.take 8 ++ (st8 :: B.drop 9) := rfl
  obtain ⟨a5, a10, q1⟩ := pr3 (.int 0) (V (.tuple [.str "groups", .int 4])) none none none (V (.int 0)) none (Orc.tl o) (okO_tl ho)
  obtain ⟨b5, b10, q2⟩ := pr3 (.int 1) a5 (V (.int 0)) none none (V (.int 0)) a10 (Orc.tl (Orc.tl (Orc.tl o))) (okO_tl (okO_tl (okO_tl ho)))
  have hl : ex exF G st8 (S3 (V (.tuple [.str "groups", .int 4])) none none none (V (.int 0)) none) [.orc (Orc.tl o), .scr []] = .ok (.nxt (S3 b5 (V (.int 1)) none none (V (.int 0)) b10)) [.orc (Orc.tl (Orc.tl (Orc.tl (Orc.tl (Orc.tl o))))), .scr []] := by
    rw [lp3]
    show (Fb (.int 0) _ _).bind _ = _
    rw [q1]
    show (Fb (.int 1) _ _).bind _ = _
    rw [q2]
    rfl
  have z := sf3 b5 (V (.int 1)) (V (.int 0)) b10 _ (okO_tl (okO_tl (okO_tl (okO_tl (okO_tl ho)))))
  have k := execs_app (b := st8 :: B.drop 9) p
  rw [← eB] at k
  refine ⟨[.orc (Orc.tl (Orc.tl (Orc.tl (Orc.tl (Orc.tl (Orc.tl o)))))), .scr []], k.trans ?_⟩
  show (ex exF G st8 _ _).bind _ = _
  rw [hl]
  exact z
abbrev rs4 : List D := [.tuple [.str "trimmed", .int 0], .tuple [.str "trimmed", .int 1], .tuple [.str "trimmed", .int 2], .tuple [.str "winsorized", .int 0], .tuple [.str "winsorized", .int 1], .tuple [.str "winsorized", .int 2], .tuple [.str "pairs", .int 0], .tuple [.str "groups", .int 1], .tuple [.str "groups", .int 5]]
abbrev S4 (x5 x6 x7 x8 x9 x10 : Option RV) : Sl := [V (spc 0), V (spc 1), V (.int 5), V (.list rs4), V (.int 2), x5, x6, x7, x8, x9, x10]
theorem pre4 (o : Orc) : execs (ex exF G) (B.take 8) [V (spc 0), none, none, none, none, none, none, none, none, none, none] [.orc (Orc.upd o 0 9 4)] = .ok (.nxt (S4 (V (.tuple [.str "groups", .int 5])) none none none (V (.int 0)) none)) [.orc (Orc.tl (Orc.upd o 0 9 4)), .scr []] := by kernel_rfl
theorem lp4 (x5 x6 x7 x8 x9 x10 : Option RV) (w : Wd) : ex exF G st8 (S4 x5 x6 x7 x8 x9 x10) w = forL Fb [.int 0, .int 1] (S4 x5 x6 x7 x8 x9 x10) w := by kernel_rfl
theorem pr4_0 (t : D) (x5 x6 x7 x8 x9 x10 : Option RV) (o : Orc) : (Fb t (S4 x5 x6 x7 x8 x9 x10) [.orc (Orc.upd (Orc.upd o 1 9 0) 0 9 0), .scr []] = .ok (.nxt (S4 (V (.tuple [.str "trimmed", .int 0])) (V t) x7 x8 x9 (V (.tuple [.str "trimmed", .int 0])))) [.orc (Orc.tl (Orc.tl (Orc.upd (Orc.upd o 1 9 0) 0 9 0))), .scr []]) ∧ (Fb t (S4 x5 x6 x7 x8 x9 x10) [.orc (Orc.upd (Orc.upd o 1 9 1) 0 9 0), .scr []] = .ok (.nxt (S4 (V (.tuple [.str "trimmed", .int 0])) (V t) x7 x8 x9 (V (.tuple [.str "trimmed", .int 1])))) [.orc (Orc.tl (Orc.tl (Orc.upd (Orc.upd o 1 9 1) 0 9 0))), .scr []]) ∧ (Fb t (S4 x5 x6 x7 x8 x9 x10) [.orc (Orc.upd (Orc.upd o 1 9 2) 0 9 0), .scr []] = .ok (.nxt (S4 (V (.tuple [.str "trimmed", .int 0])) (V t) x7 x8 x9 (V (.tuple [.str "trimmed", .int 2])))) [.orc (Orc.tl (Orc.tl (Orc.upd (Orc.upd o 1 9 2) 0 9 0))), .scr []]) ∧ (Fb t (S4 x5 x6 x7 x8 x9 x10) [.orc (Orc.upd (Orc.upd o 1 9 3) 0 9 0), .scr []] = .ok (.nxt (S4 (V (.tuple [.str "trimmed", .int 0])) (V t) x7 x8 x9 (V (.tuple [.str "winsorized", .int 0])))) [.orc (Orc.tl (Orc.tl (Orc.upd (Orc.upd o 1 9 3) 0 9 0))), .scr []]) ∧ (Fb t (S4 x5 x6 x7 x8 x9 x10) [.orc (Orc.upd (Orc.upd o 1 9 4) 0 9 0), .scr []] = .ok (.nxt (S4 (V (.tuple [.str "trimmed", .int 0])) (V t) x7 x8 x9 (V (.tuple [.str "winsorized", .int 1])))) [.orc (Orc.tl (Orc.tl (Orc.upd (Orc.upd o 1 9 4) 0 9 0))), .scr []]) ∧ (Fb t (S4 x5 x6 x7 x8 x9 x10) [.orc (Orc.upd (Orc.upd o 1 9 5) 0 9 0), .scr []] = .ok (.nxt (S4 (V (.tuple [.str "trimmed", .int 0])) (V t) x7 x8 x9 (V (.tuple [.str "winsorized", .int 2])))) [.orc (Orc.tl (Orc.tl (Orc.upd (Orc.upd o 1 9 5) 0 9 0))), .scr []]) ∧ (Fb t (S4 x5 x6 x7 x8 x9 x10) [.orc (Orc.upd (Orc.upd o 1 9 6) 0 9 0), .scr []] = .ok (.nxt (S4 (V (.tuple [.str "trimmed", .int 0])) (V t) x7 x8 x9 (V (.tuple [.str "pairs", .int 0])))) [.orc (Orc.tl (Orc.tl (Orc.upd (Orc.upd o 1 9 6) 0 9 0))), .scr []]) ∧ (Fb t (S4 x5 x6 x7 x8 x9 x10) [.orc (Orc.upd (Orc.upd o 1 9 7) 0 9 0), .scr []] = .ok (.nxt (S4 (V (.tuple [.str "trimmed", .int 0])) (V t) x7 x8 x9 (V (.tuple [.str "groups", .int 1])))) [.orc (Orc.tl (Orc.tl (Orc.upd (Orc.upd o 1 9 7) 0 9 0))), .scr []]) ∧ (Fb t (S4 x5 x6 x7 x8 x9 x10) [.orc (Orc.upd (Orc.upd o 1 9 8) 0 9 0), .scr []] = .ok (.nxt (S4 (V (.tuple [.str "trimmed", .int 0])) (V t) x7 x8 x9 (V (.tuple [.str "groups", .int 5])))) [.orc (Orc.tl (Orc.tl (Orc.upd (Orc.upd o 1 9 8) 0 9 0))), .scr []]) := ⟨by kernel_rfl, by kernel_rfl, by kernel_rfl, by kernel_rfl, by kernel_rfl, by kernel_rfl, by kernel_rfl, by kernel_rfl, by kernel_rfl⟩
theorem pr4_1 (t : D) (x5 x6 x7 x8 x9 x10 : Option RV) (o : Orc) : (Fb t (S4 x5 x6 x7 x8 x9 x10) [.orc (Orc.upd (Orc.upd o 1 9 0) 0 9 1), .scr []] = .ok (.nxt (S4 (V (.tuple [.str "trimmed", .int 1])) (V t) x7 x8 x9 (V (.tuple [.str "trimmed", .int 0])))) [.orc (Orc.tl (Orc.tl (Orc.upd (Orc.upd o 1 9 0) 0 9 1))), .scr []]) ∧ (Fb t (S4 x5 x6 x7 x8 x9 x10) [.orc (Orc.upd (Orc.upd o 1 9 1) 0 9 1), .scr []] = .ok (.nxt (S4 (V (.tuple [.str "trimmed", .int 1])) (V t) x7 x8 x9 (V (.tuple [.str "trimmed", .int 1])))) [.orc (Orc.tl (Orc.tl (Orc.upd (Orc.upd o 1 9 1) 0 9 1))), .scr []]) ∧ (Fb t (S4 x5 x6 x7 x8 x9 x10) [.orc (Orc.upd (Orc.upd o 1 9 2) 0 9 1), .scr []] = .ok (.nxt (S4 (V (.tuple [.str "trimmed", .int 1])) (V t) x7 x8 x9 (V (.tuple [.str "trimmed", .int 2])))) [.orc (Orc.tl (Orc.tl (Orc.upd (Orc.upd o 1 9 2) 0 9 1))), .scr []]) ∧ (Fb t (S4 x5 x6 x7 x8 x9 x10) [.orc (Orc.upd (Orc.upd o 1 9 3) 0 9 1), .scr []] = .ok (.nxt (S4 (V (.tuple [.str "trimmed", .int 1])) (V t) x7 x8 x9 (V (.tuple [.str "winsorized", .int 0])))) [.orc (Orc.tl (Orc.tl (Orc.upd (Orc.upd o 1 9 3) 0 9 1))), .scr []]) ∧ (Fb t (S4 x5 x6 x7 x8 x9 x10) [.orc (Orc.upd (Orc.upd o 1 9 4) 0 9 1), .scr []] = .ok (.nxt (S4 (V (.tuple [.str "trimmed", .int 1])) (V t) x7 x8 x9 (V (.tuple [.str "winsorized", .int 1])))) [.orc (Orc.tl (Orc.tl (Orc.upd (Orc.upd o 1 9 4) 0 9 1))), .scr []]) ∧ (Fb t (S4 x5 x6 x7 x8 x9 x10) [.orc (Orc.upd (Orc.upd o 1 9 5) 0 9 1), .scr []] = .ok (.nxt (S4 (V (.tuple [.str "trimmed", .int 1])) (V t) x7 x8 x9 (V (.tuple [.str "winsorized", .int 2])))) [.orc (Orc.tl (Orc.tl (Orc.upd (Orc.upd o 1 9 5) 0 9 1))), .scr []]) ∧ (Fb t (S4 x5 x6 x7 x8 x9 x10) [.orc (Orc.upd (Orc.upd o 1 9 6) 0 9 1), .scr []] = .ok (.nxt (S4 (V (.tuple [.str "trimmed", .int 1])) (V t) x7 x8 x9 (V (.tuple [.str "pairs", .int 0])))) [.orc (Orc.tl (Orc.tl (Orc.upd (Orc.upd o 1 9 6) 0 9 1))), .scr []]) ∧ (Fb t (S4 x5 x6 x7 x8 x9 x10) [.orc (Orc.upd (Orc.upd o 1 9 7) 0 9 1), .scr []] = .ok (.nxt (S4 (V (.tuple [.str "trimmed", .int 1])) (V t) x7 x8 x9 (V (.tuple [.str "groups", .int 1])))) [.orc (Orc.tl (Orc.tl (Orc.upd (Orc.upd o 1 9 7) 0 9 1))), .scr []]) ∧ (Fb t (S4 x5 x6 x7 x8 x9 x10) [.orc (Orc.upd (Orc.upd o 1 9 8) 0 9 1), .scr []] = .ok (.nxt (S4 (V (.tuple [.str "trimmed", .int 1])) (V t) x7 x8 x9 (V (.tuple [.str "groups", .int 5])))) [.orc (Orc.tl (Orc.tl (Orc.upd (Orc.upd o 1 9 8) 0 9 1))), .scr []]) := ⟨by kernel_rfl, by kernel_rfl, by kernel_rfl, by kernel_rfl, by kernel_rfl, by kernel_rfl, by kernel_rfl, by kernel_rfl, by kernel_rfl⟩
theorem pr4_2 (t : D) (x5 x6 x7 x8 x9 x10 : Option RV) (o : Orc) : (Fb t (S4 x5 x6 x7 x8 x9 x10) [.orc (Orc.upd (Orc.upd o 1 9 0) 0 9 2), .scr []] = .ok (.nxt (S4 (V (.tuple [.str "trimmed", .int 2])) (V t) x7 x8 x9 (V (.tuple [.str "trimmed", .int 0])))) [.orc (Orc.tl (Orc.tl (Orc.upd (Orc.upd o 1 9 0) 0 9 2))), .scr []]) ∧ (Fb t (S4 x5 x6 x7 x8 x9 x10) [.orc (Orc.upd (Orc.upd o 1 9 1) 0 9 2), .scr []] = .ok (.nxt (S4 (V (.tuple [.str "trimmed", .int 2])) (V t) x7 x8 x9 (V (.tuple [.str "trimmed", .int 1])))) [.orc (Orc.tl (Orc.tl (Orc.upd (Orc.upd o 1 9 1) 0 9 2))), .scr []]) ∧ (Fb t (S4 x5 x6 x7 x8 x9 x10) [.orc (Orc.upd (Orc.upd o 1 9 2) 0 9 2), .scr []] = .ok (.nxt (S4 (V (.tuple [.str "trimmed", .int 2])) (V t) x7 x8 x9 (V (.tuple [.str "trimmed", .int 2])))) [.orc (Orc.tl (Orc.tl (Orc.upd (Orc.upd o 1 9 2) 0 9 2))), .scr []]) ∧ (Fb t (S4 x5 x6 x7 x8 x9 x10) [.orc (Orc.upd (Orc.upd o 1 9 3) 0 9 2), .scr []] = .ok (.nxt (S4 (V (.tuple [.str "trimmed", .int 2])) (V t) x7 x8 x9 (V (.tuple [.str "winsorized", .int 0])))) [.orc (Orc.tl (Orc.tl (Orc.upd (Orc.upd o 1 9 3) 0 9 2))), .scr []]) ∧ (Fb t (S4 x5 x6 x7 x8 x9 x10) [.orc (Orc.upd (Orc.upd o 1 9 4) 0 9 2), .scr []] = .ok (.nxt (S4 (V (.tuple [.str "trimmed", .int 2])) (V t) x7 x8 x9 (V (.tuple [.str "winsorized", .int 1])))) [.orc (Orc.tl (Orc.tl (Orc.upd (Orc.upd o 1 9 4) 0 9 2))), .scr []]) ∧ (Fb t (S4 x5 x6 x7 x8 x9 x10) [.orc (Orc.upd (Orc.upd o 1 9 5) 0 9 2), .scr []] = .ok (.nxt (S4 (V (.tuple [.str "trimmed", .int 2])) (V t) x7 x8 x9 (V (.tuple [.str "winsorized", .int 2])))) [.orc (Orc.tl (Orc.tl (Orc.upd (Orc.upd o 1 9 5) 0 9 2))), .scr []]) ∧ (Fb t (S4 x5 x6 x7 x8 x9 x10) [.orc (Orc.upd (Orc.upd o 1 9 6) 0 9 2), .scr []] = .ok (.nxt (S4 (V (.tuple [.str "trimmed", .int 2])) (V t) x7 x8 x9 (V (.tuple [.str "pairs", .int 0])))) [.orc (Orc.tl (Orc.tl (Orc.upd (Orc.upd o 1 9 6) 0 9 2))), .scr []]) ∧ (Fb t (S4 x5 x6 x7 x8 x9 x10) [.orc (Orc.upd (Orc.upd o 1 9 7) 0 9 2), .scr []] = .ok (.nxt (S4 (V (.tuple [.str "trimmed", .int 2])) (V t) x7 x8 x9 (V (.tuple [.str "groups", .int 1])))) [.orc (Orc.tl (Orc.tl (Orc.upd (Orc.upd o 1 9 7) 0 9 2))), .scr []]) ∧ (Fb t (S4 x5 x6 x7 x8 x9 x10) [.orc (Orc.upd (Orc.upd o 1 9 8) 0 9 2), .scr []] = .ok (.nxt (S4 (V (.tuple [.str "trimmed", .int 2])) (V t) x7 x8 x9 (V (.tuple [.str "groups", .int 5])))) [.orc (Orc.tl (Orc.tl (Orc.upd (Orc.upd o 1 9 8) 0 9 2))), .scr []]) := ⟨by kernel_rfl, by kernel_rfl, by kernel_rfl, by kernel_rfl, by kernel_rfl, by kernel_rfl, by kernel_rfl, by kernel_rfl, by kernel_rfl⟩
theorem pr4_3 (t : D) (x5 x6 x7 x8 x9 x10 : Option RV) (o : Orc) : (Fb t (S4 x5 x6 x7 x8 x9 x10) [.orc (Orc.upd (Orc.upd o 1 9 0) 0 9 3), .scr []] = .ok (.nxt (S4 (V (.tuple [.str "winsorized", .int 0])) (V t) x7 x8 x9 (V (.tuple [.str "trimmed", .int 0])))) [.orc (Orc.tl (Orc.tl (Orc.upd (Orc.upd o 1 9 0) 0 9 3))), .scr []]) ∧ (Fb t (S4 x5 x6 x7 x8 x9 x10) [.orc (Orc.upd (Orc.upd o 1 9 1) 0 9 3), .scr []] = .ok (.nxt (S4 (V (.tuple [.str "winsorized", .int 0])) (V t) x7 x8 x9 (V (.tuple [.str "trimmed", .int 1])))) [.orc (Orc.tl (Orc.tl (Orc.upd (Orc.upd o 1 9 1) 0 9 3))), .scr []]) ∧ (Fb t (S4 x5 x6 x7 x8 x9 x10) [.orc (Orc.upd (Orc.upd o 1 9 2) 0 9 3), .scr []] = .ok (.nxt (S4 (V (.tuple [.str "winsorized", .int 0])) (V t) x7 x8 x9 (V (.tuple [.str "trimmed", .int 2])))) [.orc (Orc.tl (Orc.tl (Orc.upd (Orc.upd o 1 9 2) 0 9 3))), .scr []]) ∧ (Fb t (S4 x5 x6 x7 x8 x9 x10) [.orc (Orc.upd (Orc.upd o 1 9 3) 0 9 3), .scr []] = .ok (.nxt (S4 (V (.tuple [.str "winsorized", .int 0])) (V t) x7 x8 x9 (V (.tuple [.str "winsorized", .int 0])))) [.orc (Orc.tl (Orc.tl (Orc.upd (Orc.upd o 1 9 3) 0 9 3))), .scr []]) ∧ (Fb t (S4 x5 x6 x7 x8 x9 x10) [.orc (Orc.upd (Orc.upd o 1 9 4) 0 9 3), .scr []] = .ok (.nxt (S4 (V (.tuple [.str "winsorized", .int 0])) (V t) x7 x8 x9 (V (.tuple [.str "winsorized", .int 1])))) [.orc (Orc.tl (Orc.tl (Orc.upd (Orc.upd o 1 9 4) 0 9 3))), .scr []]) ∧ (Fb t (S4 x5 x6 x7 x8 x9 x10) [.orc (Orc.upd (Orc.upd o 1 9 5) 0 9 3), .scr []] = .ok (.nxt (S4 (V (.tuple [.str "winsorized", .int 0])) (V t) x7 x8 x9 (V (.tuple [.str "winsorized", .int 2])))) [.orc (Orc.tl (Orc.tl (Orc.upd (Orc.upd o 1 9 5) 0 9 3))), .scr []]) ∧ (Fb t (S4 x5 x6 x7 x8 x9 x10) [.orc (Orc.upd (Orc.upd o 1 9 6) 0 9 3), .scr []] = .ok (.nxt (S4 (V (.tuple [.str "winsorized", .int 0])) (V t) x7 x8 x9 (V (.tuple [.str "pairs", .int 0])))) [.orc (Orc.tl (Orc.tl (Orc.upd (Orc.upd o 1 9 6) 0 9 3))), .scr []]) ∧ (Fb t (S4 x5 x6 x7 x8 x9 x10) [.orc (Orc.upd (Orc.upd o 1 9 7) 0 9 3), .scr []] = .ok (.nxt (S4 (V (.tuple [.str "winsorized", .int 0])) (V t) x7 x8 x9 (V (.tuple [.str "groups", .int 1])))) [.orc (Orc.tl (Orc.tl (Orc.upd (Orc.upd o 1 9 7) 0 9 3))), .scr []]) ∧ (Fb t (S4 x5 x6 x7 x8 x9 x10) [.orc (Orc.upd (Orc.upd o 1 9 8) 0 9 3), .scr []] = .ok (.nxt (S4 (V (.tuple [.str "winsorized", .int 0])) (V t) x7 x8 x9 (V (.tuple [.str "groups", .int 5])))) [.orc (Orc.tl (Orc.tl (Orc.upd (Orc.upd o 1 9 8) 0 9 3))), .scr []]) := ⟨by kernel_rfl, by kernel_rfl, by kernel_rfl, by kernel_rfl, by kernel_rfl, by kernel_rfl, by kernel_rfl, by kernel_rfl, by kernel_rfl⟩
theorem pr4_4 (t : D) (x5 x6 x7 x8 x9 x10 : Option RV) (o : Orc) : (Fb t (S4 x5 x6 x7 x8 x9 x10) [.orc (Orc.upd (Orc.upd o 1 9 0) 0 9 4), .scr []] = .ok (.nxt (S4 (V (.tuple [.str "winsorized", .int 1])) (V t) x7 x8 x9 (V (.tuple [.str "trimmed", .int 0])))) [.orc (Orc.tl (Orc.tl (Orc.upd (Orc.upd o 1 9 0) 0 9 4))), .scr []]) ∧ (Fb t (S4 x5 x6 x7 x8 x9 x10) [.orc (Orc.upd (Orc.upd o 1 9 1) 0 9 4), .scr []] = .ok (.nxt (S4 (V (.tuple [.str "winsorized", .int 1])) (V t) x7 x8 x9 (V (.tuple [.str "trimmed", .int 1])))) [.orc (Orc.tl (Orc.tl (Orc.upd (Orc.upd o 1 9 1) 0 9 4))), .scr []]) ∧ (Fb t (S4 x5 x6 x7 x8 x9 x10) [.orc (Orc.upd (Orc.upd o 1 9 2) 0 9 4), .scr []] = .ok (.nxt (S4 (V (.tuple [.str "winsorized", .int 1])) (V t) x7 x8 x9 (V (.tuple [.str "trimmed", .int 2])))) [.orc (Orc.tl (Orc.tl (Orc.upd (Orc.upd o 1 9 2) 0 9 4))), .scr []]) ∧ (Fb t (S4 x5 x6 x7 x8 x9 x10) [.orc (Orc.upd (Orc.upd o 1 9 3) 0 9 4), .scr []] = .ok (.nxt (S4 (V (.tuple [.str "winsorized", .int 1])) (V t) x7 x8 x9 (V (.tuple [.str "winsorized", .int 0])))) [.orc (Orc.tl (Orc.tl (Orc.upd (Orc.upd o 1 9 3) 0 9 4))), .scr []]) ∧ (Fb t (S4 x5 x6 x7 x8 x9 x10) [.orc (Orc.upd (Orc.upd o 1 9 4) 0 9 4), .scr []] = .ok (.nxt (S4 (V (.tuple [.str "winsorized", .int 1])) (V t) x7 x8 x9 (V (.tuple [.str "winsorized", .int 1])))) [.orc (Orc.tl (Orc.tl (Orc.upd (Orc.upd o 1 9 4) 0 9 4))), .scr []]) ∧ (Fb t (S4 x5 x6 x7 x8 x9 x10) [.orc (Orc.upd (Orc.upd o 1 9 5) 0 9 4), .scr []] = .ok (.nxt (S4 (V (.tuple [.str "winsorized", .int 1])) (V t) x7 x8 x9 (V (.tuple [.str "winsorized", .int 2])))) [.orc (Orc.tl (Orc.tl (Orc.upd (Orc.upd o 1 9 5) 0 9 4))), .scr []]) ∧ (Fb t (S4 x5 x6 x7 x8 x9 x10) [.orc (Orc.upd (Orc.upd o 1 9 6) 0 9 4), .scr []] = .ok (.nxt (S4 (V (.tuple [.str "winsorized", .int 1])) (V t) x7 x8 x9 (V (.tuple [.str "pairs", .int 0])))) [.orc (Orc.tl (Orc.tl (Orc.upd (Orc.upd o 1 9 6) 0 9 4))), .scr []]) ∧ (Fb t (S4 x5 x6 x7 x8 x9 x10) [.orc (Orc.upd (Orc.upd o 1 9 7) 0 9 4), .scr []] = .ok (.nxt (S4 (V (.tuple [.str "winsorized", .int 1])) (V t) x7 x8 x9 (V (.tuple [.str "groups", .int 1])))) [.orc (Orc.tl (Orc.tl (Orc.upd (Orc.upd o 1 9 7) 0 9 4))), .scr []]) ∧ (Fb t (S4 x5 x6 x7 x8 x9 x10) [.orc (Orc.upd (Orc.upd o 1 9 8) 0 9 4), .scr []] = .ok (.nxt (S4 (V (.tuple [.str "winsorized", .int 1])) (V t) x7 x8 x9 (V (.tuple [.str "groups", .int 5])))) [.orc (Orc.tl (Orc.tl (Orc.upd (Orc.upd o 1 9 8) 0 9 4))), .scr []]) := ⟨by kernel_rfl, by kernel_rfl, by kernel_rfl, by kernel_rfl, by kernel_rfl, by kernel_rfl, by kernel_rfl, by kernel_rfl, by kernel_rfl⟩
theorem pr4_5 (t : D) (x5 x6 x7 x8 x9 x10 : Option RV) (o : Orc) : (Fb t (S4 x5 x6 x7 x8 x9 x10) [.orc (Orc.upd (Orc.upd o 1 9 0) 0 9 5), .scr []] = .ok (.nxt (S4 (V (.tuple [.str "winsorized", .int 2])) (V t) x7 x8 x9 (V (.tuple [.str "trimmed", .int 0])))) [.orc (Orc.tl (Orc.tl (Orc.upd (Orc.upd o 1 9 0) 0 9 5))), .scr []]) ∧ (Fb t (S4 x5 x6 x7 x8 x9 x10) [.orc (Orc.upd (Orc.upd o 1 9 1) 0 9 5), .scr []] = .ok (.nxt (S4 (V (.tuple [.str "winsorized", .int 2])) (V t) x7 x8 x9 (V (.tuple [.str "trimmed", .int 1])))) [.orc (Orc.tl (Orc.tl (Orc.upd (Orc.upd o 1 9 1) 0 9 5))), .scr []]) ∧ (Fb t (S4 x5 x6 x7 x8 x9 x10) [.orc (Orc.upd (Orc.upd o 1 9 2) 0 9 5), .scr []] = .ok (.nxt (S4 (V (.tuple [.str "winsorized", .int 2])) (V t) x7 x8 x9 (V (.tuple [.str "trimmed", .int 2])))) [.orc (Orc.tl (Orc.tl (Orc.upd (Orc.upd o 1 9 2) 0 9 5))), .scr []]) ∧ (Fb t (S4 x5 x6 x7 x8 x9 x10) [.orc (Orc.upd (Orc.upd o 1 9 3) 0 9 5), .scr []] = .ok (.nxt (S4 (V (.tuple [.str "winsorized", .int 2])) (V t) x7 x8 x9 (V (.tuple [.str "winsorized", .int 0])))) [.orc (Orc.tl (Orc.tl (Orc.upd (Orc.upd o 1 9 3) 0 9 5))), .scr []]) ∧ (Fb t (S4 x5 x6 x7 x8 x9 x10) [.orc (Orc.upd (Orc.upd o 1 9 4) 0 9 5), .scr []] = .ok (.nxt (S4 (V (.tuple [.str "winsorized", .int 2])) (V t) x7 x8 x9 (V (.tuple [.str "winsorized", .int 1])))) [.orc (Orc.tl (Orc.tl (Orc.upd (Orc.upd o 1 9 4) 0 9 5))), .scr []]) ∧ (Fb t (S4 x5 x6 x7 x8 x9 x10) [.orc (Orc.upd (Orc.upd o 1 9 5) 0 9 5), .scr []] = .ok (.nxt (S4 (V (.tuple [.str "winsorized", .int 2])) (V t) x7 x8 x9 (V (.tuple [.str "winsorized", .int 2])))) [.orc (Orc.tl (Orc.tl (Orc.upd (Orc.upd o 1 9 5) 0 9 5))), .scr []]) ∧ (Fb t (S4 x5 x6 x7 x8 x9 x10) [.orc (Orc.upd (Orc.upd o 1 9 6) 0 9 5), .scr []] = .ok (.nxt (S4 (V (.tuple [.str "winsorized", .int 2])) (V t) x7 x8 x9 (V (.tuple [.str "pairs", .int 0])))) [.orc (Orc.tl (Orc.tl (Orc.upd (Orc.upd o 1 9 6) 0 9 5))), .scr []]) ∧ (Fb t (S4 x5 x6 x7 x8 x9 x10) [.orc (Orc.upd (Orc.upd o 1 9 7) 0 9 5), .scr []] = .ok (.nxt (S4 (V (.tuple [.str "winsorized", .int 2])) (V t) x7 x8 x9 (V (.tuple [.str "groups", .int 1])))) [.orc (Orc.tl (Orc.tl (Orc.upd (Orc.upd o 1 9 7) 0 9 5))), .scr []]) ∧ (Fb t (S4 x5 x6 x7 x8 x9 x10) [.orc (Orc.upd (Orc.upd o 1 9 8) 0 9 5), .scr []] = .ok (.nxt (S4 (V (.tuple [.str "winsorized", .int 2])) (V t) x7 x8 x9 (V (.tuple [.str "groups", .int 5])))) [.orc (Orc.tl (Orc.tl (Orc.upd (Orc.upd o 1 9 8) 0 9 5))), .scr []]) := ⟨by kernel_rfl, by kernel_rfl, by kernel_rfl, by kernel_rfl, by kernel_rfl, by kernel_rfl, by kernel_rfl, by kernel_rfl, by kernel_rfl⟩
theorem pr4_6 (t : D) (x5 x6 x7 x8 x9 x10 : Option RV) (o : Orc) : (Fb t (S4 x5 x6 x7 x8 x9 x10) [.orc (Orc.upd (Orc.upd o 1 9 0) 0 9 6), .scr []] = .ok (.nxt (S4 (V (.tuple [.str "pairs", .int 0])) (V t) x7 x8 x9 (V (.tuple [.str "trimmed", .int 0])))) [.orc (Orc.tl (Orc.tl (Orc.upd (Orc.upd o 1 9 0) 0 9 6))), .scr []]) ∧ (Fb t (S4 x5 x6 x7 x8 x9 x10) [.orc (Orc.upd (Orc.upd o 1 9 1) 0 9 6), .scr []] = .ok (.nxt (S4 (V (.tuple [.str "pairs", .int 0])) (V t) x7 x8 x9 (V (.tuple [.str "trimmed", .int 1])))) [.orc (Orc.tl (Orc.tl (Orc.upd (Orc.upd o 1 9 1) 0 9 6))), .scr []]) ∧ (Fb t (S4 x5 x6 x7 x8 x9 x10) [.orc (Orc.upd (Orc.upd o 1 9 2) 0 9 6), .scr []] = .ok (.nxt (S4 (V (.tuple [.str "pairs", .int 0])) (V t) x7 x8 x9 (V (.tuple [.str "trimmed", .int 2])))) [.orc (Orc.tl (Orc.tl (Orc.upd (Orc.upd o 1 9 2) 0 9 6))), .scr []]) ∧ (Fb t (S4 x5 x6 x7 x8 x9 x10) [.orc (Orc.upd (Orc.upd o 1 9 3) 0 9 6), .scr []] = .ok (.nxt (S4 (V (.tuple [.str "pairs", .int 0])) (V t) x7 x8 x9 (V (.tuple [.str "winsorized", .int 0])))) [.orc (Orc.tl (Orc.tl (Orc.upd (Orc.upd o 1 9 3) 0 9 6))), .scr []]) ∧ (Fb t (S4 x5 x6 x7 x8 x9 x10) [.orc (Orc.upd (Orc.upd o 1 9 4) 0 9 6), .scr []] = .ok (.nxt (S4 (V (.tuple [.str "pairs", .int 0])) (V t) x7 x8 x9 (V (.tuple [.str "winsorized", .int 1])))) [.orc (Orc.tl (Orc.tl (Orc.upd (Orc.upd o 1 9 4) 0 9 6))), .scr []]) ∧ (Fb t (S4 x5 x6 x7 x8 x9 x10) [.orc (Orc.upd (Orc.upd o 1 9 5) 0 9 6), .scr []] = .ok (.nxt (S4 (V (.tuple [.str "pairs", .int 0])) (V t) x7 x8 x9 (V (.tuple [.str "winsorized", .int 2])))) [.orc (Orc.tl (Orc.tl (Orc.upd (Orc.upd o 1 9 5) 0 9 6))), .scr []]) ∧ (Fb t (S4 x5 x6 x7 x8 x9 x10) [.orc (Orc.upd (Orc.upd o 1 9 6) 0 9 6), .scr []] = .ok (.nxt (S4 (V (.tuple [.str "pairs", .int 0])) (V t) x7 x8 x9 (V (.tuple [.str "pairs", .int 0])))) [.orc (Orc.tl (Orc.tl (Orc.upd (Orc.upd o 1 9 6) 0 9 6))), .scr []]) ∧ (Fb t (S4 x5 x6 x7 x8 x9 x10) [.orc (Orc.upd (Orc.upd o 1 9 7) 0 9 6), .scr []] = .ok (.nxt (S4 (V (.tuple [.str "pairs", .int 0])) (V t) x7 x8 x9 (V (.tuple [.str "groups", .int 1])))) [.orc (Orc.tl (Orc.tl (Orc.upd (Orc.upd o 1 9 7) 0 9 6))), .scr []]) ∧ (Fb t (S4 x5 x6 x7 x8 x9 x10) [.orc (Orc.upd (Orc.upd o 1 9 8) 0 9 6), .scr []] = .ok (.nxt (S4 (V (.tuple [.str "pairs", .int 0])) (V t) x7 x8 x9 (V (.tuple [.str "groups", .int 5])))) [.orc (Orc.tl (Orc.tl (Orc.upd (Orc.upd o 1 9 8) 0 9 6))), .scr []]) := ⟨by kernel_rfl, by kernel_rfl, by kernel_rfl, by kernel_rfl, by kernel_rfl, by kernel_rfl, by kernel_rfl, by kernel_rfl, by kernel_rfl⟩
theorem pr4_7 (t : D) (x5 x6 x7 x8 x9 x10 : Option RV) (o : Orc) : (Fb t (S4 x5 x6 x7 x8 x9 x10) [.orc (Orc.upd (Orc.upd o 1 9 0) 0 9 7), .scr []] = .ok (.nxt (S4 (V (.tuple [.str "groups", .int 1])) (V t) x7 x8 x9 (V (.tuple [.str "trimmed", .int 0])))) [.orc (Orc.tl (Orc.tl (Orc.upd (Orc.upd o 1 9 0) 0 9 7))), .scr []]) ∧ (Fb t (S4 x5 x6 x7 x8 x9 x10) [.orc (Orc.upd (Orc.upd o 1 9 1) 0 9 7), .scr []] = .ok (.nxt (S4 (V (.tuple [.str "groups", .int 1])) (V t) x7 x8 x9 (V (.tuple [.str "trimmed", .int 1])))) [.orc (Orc.tl (Orc.tl (Orc.upd (Orc.upd o 1 9 1) 0 9 7))), .scr []]) ∧ (Fb t (S4 x5 x6 x7 x8 x9 x10) [.orc (Orc.upd (Orc.upd o 1 9 2) 0 9 7), .scr []] = .ok (.nxt (S4 (V (.tuple [.str "groups", .int 1])) (V t) x7 x8 x9 (V (.tuple [.str "trimmed", .int 2])))) [.orc (Orc.tl (Orc.tl (Orc.upd (Orc.upd o 1 9 2) 0 9 7))), .scr []]) ∧ (Fb t (S4 x5 x6 x7 x8 x9 x10) [.orc (Orc.upd (Orc.upd o 1 9 3) 0 9 7), .scr []] = .ok (.nxt (S4 (V (.tuple [.str "groups", .int 1])) (V t) x7 x8 x9 (V (.tuple [.str "winsorized", .int 0])))) [.orc (Orc.tl (Orc.tl (Orc.upd (Orc.upd o 1 9 3) 0 9 7))), .scr []]) ∧ (Fb t (S4 x5 x6 x7 x8 x9 x10) [.orc (Orc.upd (Orc.upd o 1 9 4) 0 9 7), .scr []] = .ok (.nxt (S4 (V (.tuple [.str "groups", .int 1])) (V t) x7 x8 x9 (V (.tuple [.str "winsorized", .int 1])))) [.orc (Orc.tl (Orc.tl (Orc.upd (Orc.upd o 1 9 4) 0 9 7))), .scr []]) ∧ (Fb t (S4 x5 x6 x7 x8 x9 x10) [.orc (Orc.upd (Orc.upd o 1 9 5) 0 9 7), .scr []] = .ok (.nxt (S4 (V (.tuple [.str "groups", .int 1])) (V t) x7 x8 x9 (V (.tuple [.str "winsorized", .int 2])))) [.orc (Orc.tl (Orc.tl (Orc.upd (Orc.upd o 1 9 5) 0 9 7))), .scr []]) ∧ (Fb t (S4 x5 x6 x7 x8 x9 x10) [.orc (Orc.upd (Orc.upd o 1 9 6) 0 9 7), .scr []] = .ok (.nxt (S4 (V (.tuple [.str "groups", .int 1])) (V t) x7 x8 x9 (V (.tuple [.str "pairs", .int 0])))) [.orc (Orc.tl (Orc.tl (Orc.upd (Orc.upd o 1 9 6) 0 9 7))), .scr []]) ∧ (Fb t (S4 x5 x6 x7 x8 x9 x10) [.orc (Orc.upd (Orc.upd o 1 9 7) 0 9 7), .scr []] = .ok (.nxt (S4 (V (.tuple [.str "groups", .int 1])) (V t) x7 x8 x9 (V (.tuple [.str "groups", .int 1])))) [.orc (Orc.tl (Orc.tl (Orc.upd (Orc.upd o 1 9 7) 0 9 7))), .scr []]) ∧ (Fb t (S4 x5 x6 x7 x8 x9 x10) [.orc (Orc.upd (Orc.upd o 1 9 8) 0 9 7), .scr []] = .ok (.nxt (S4 (V (.tuple [.str "groups", .int 1])) (V t) x7 x8 x9 (V (.tuple [.str "groups", .int 5])))) [.orc (Orc.tl (Orc.tl (Orc.upd (Orc.upd o 1 9 8) 0 9 7))), .scr []]) := ⟨by kernel_rfl, by kernel_rfl, by kernel_rfl, by kernel_rfl, by kernel_rfl, by kernel_rfl, by kernel_rfl, by kernel_rfl, by kernel_rfl⟩
theorem pr4_8 (t : D) (x5 x6 x7 x8 x9 x10 : Option RV) (o : Orc) : (Fb t (S4 x5 x6 x7 x8 x9 x10) [.orc (Orc.upd (Orc.upd o 1 9 0) 0 9 8), .scr []] = .ok (.nxt (S4 (V (.tuple [.str "groups", .int 5])) (V t) x7 x8 x9 (V (.tuple [.str "trimmed", .int 0])))) [.orc (Orc.tl (Orc.tl (Orc.upd (Orc.upd o 1 9 0) 0 9 8))), .scr []]) ∧ (Fb t (S4 x5 x6 x7 x8 x9 x10) [.orc (Orc.upd (Orc.upd o 1 9 1) 0 9 8), .scr []] = .ok (.nxt (S4 (V (.tuple [.str "groups", .int 5])) (V t) x7 x8 x9 (V (.tuple [.str "trimmed", .int 1])))) [.orc (Orc.tl (Orc.tl (Orc.upd (Orc.upd o 1 9 1) 0 9 8))), .scr []]) ∧ (Fb t (S4 x5 x6 x7 x8 x9 x10) [.orc (Orc.upd (Orc.upd o 1 9 2) 0 9 8), .scr []] = .ok (.nxt (S4 (V (.tuple [.str "groups", .int 5])) (V t) x7 x8 x9 (V (.tuple [.str "trimmed", .int 2])))) [.orc (Orc.tl (Orc.tl (Orc.upd (Orc.upd o 1 9 2) 0 9 8))), .scr []]) ∧ (Fb t (S4 x5 x6 x7 x8 x9 x10) [.orc (Orc.upd (Orc.upd o 1 9 3) 0 9 8), .scr []] = .ok (.nxt (S4 (V (.tuple [.str "groups", .int 5])) (V t) x7 x8 x9 (V (.tuple [.str "winsorized", .int 0])))) [.orc (Orc.tl (Orc.tl (Orc.upd (Orc.upd o 1 9 3) 0 9 8))), .scr []]) ∧ (Fb t (S4 x5 x6 x7 x8 x9 x10) [.orc (Orc.upd (Orc.upd o 1 9 4) 0 9 8), .scr []] = .ok (.nxt (S4 (V (.tuple [.str "groups", .int 5])) (V t) x7 x8 x9 (V (.tuple [.str "winsorized", .int 1])))) [.orc (Orc.tl (Orc.tl (Orc.upd (Orc.upd o 1 9 4) 0 9 8))), .scr []]) ∧ (Fb t (S4 x5 x6 x7 x8 x9 x10) [.orc (Orc.upd (Orc.upd o 1 9 5) 0 9 8), .scr []] = .ok (.nxt (S4 (V (.tuple [.str "groups", .int 5])) (V t) x7 x8 x9 (V (.tuple [.str "winsorized", .int 2])))) [.orc (Orc.tl (Orc.tl (Orc.upd (Orc.upd o 1 9 5) 0 9 8))), .scr []]) ∧ (Fb t (S4 x5 x6 x7 x8 x9 x10) [.orc (Orc.upd (Orc.upd o 1 9 6) 0 9 8), .scr []] = .ok (.nxt (S4 (V (.tuple [.str "groups", .int 5])) (V t) x7 x8 x9 (V (.tuple [.str "pairs", .int 0])))) [.orc (Orc.tl (Orc.tl (Orc.upd (Orc.upd o 1 9 6) 0 9 8))), .scr []]) ∧ (Fb t (S4 x5 x6 x7 x8 x9 x10) [.orc (Orc.upd (Orc.upd o 1 9 7) 0 9 8), .scr []] = .ok (.nxt (S4 (V (.tuple [.str "groups", .int 5])) (V t) x7 x8 x9 (V (.tuple [.str "groups", .int 1])))) [.orc (Orc.tl (Orc.tl (Orc.upd (Orc.upd o 1 9 7) 0 9 8))), .scr []]) ∧ (Fb t (S4 x5 x6 x7 x8 x9 x10) [.orc (Orc.upd (Orc.upd o 1 9 8) 0 9 8), .scr []] = .ok (.nxt (S4 (V (.tuple [.str "groups", .int 5])) (V t) x7 x8 x9 (V (.tuple [.str "groups", .int 5])))) [.orc (Orc.tl (Orc.tl (Orc.upd (Orc.upd o 1 9 8) 0 9 8))), .scr []]) := ⟨by kernel_rfl, by kernel_rfl, by kernel_rfl, by kernel_rfl, by kernel_rfl, by kernel_rfl, by kernel_rfl, by kernel_rfl, by kernel_rfl⟩
theorem pr4 (t : D) (x5 x6 x7 x8 x9 x10 : Option RV) (o : Orc) (ho : OkO o) : ∃ y5 y10, Fb t (S4 x5 x6 x7 x8 x9 x10) [.orc o, .scr []] = .ok (.nxt (S4 y5 (V t) x7 x8 x9 y10)) [.orc (Orc.tl (Orc.tl o)), .scr []] := by
  have h0 := ho 0 9 (by decide)
  have h1 := ho 1 9 (by decide)
  have e := Orc.upd_self o 1 9
  have e2 := Orc.upd_self o 0 9
  generalize o 0 9 = a at h0 e2
  generalize o 1 9 = b at h1 e
  have ea : a = 0 ∨ a = 1 ∨ a = 2 ∨ a = 3 ∨ a = 4 ∨ a = 5 ∨ a = 6 ∨ a = 7 ∨ a = 8 := by omega
  have eb : b = 0 ∨ b = 1 ∨ b = 2 ∨ b = 3 ∨ b = 4 ∨ b = 5 ∨ b = 6 ∨ b = 7 ∨ b = 8 := by omega
  rcases ea with rfl | rfl | rfl | rfl | rfl | rfl | rfl | rfl | rfl
  · obtain ⟨k0, k1, k2, k3, k4, k5, k6, k7, k8⟩ := pr4_0 t x5 x6 x7 x8 x9 x10 o
    rcases eb with rfl | rfl | rfl | rfl | rfl | rfl | rfl | rfl | rfl
    · rw [e, e2] at k0; exact ⟨_, _, k0⟩
    · rw [e, e2] at k1; exact ⟨_, _, k1⟩
    · rw [e, e2] at k2; exact ⟨_, _, k2⟩
    · rw [e, e2] at k3; exact ⟨_, _, k3⟩
    · rw [e, e2] at k4; exact ⟨_, _, k4⟩
    · rw [e, e2] at k5; exact ⟨_, _, k5⟩
    · rw [e, e2] at k6; exact ⟨_, _, k6⟩
    · rw [e, e2] at k7; exact ⟨_, _, k7⟩
    · rw [e, e2] at k8; exact ⟨_, _, k8⟩
  · obtain ⟨k0, k1, k2, k3, k4, k5, k6, k7, k8⟩ := pr4_1 t x5 x6 x7 x8 x9 x10 o
    rcases eb with rfl | rfl | rfl | rfl | rfl | rfl | rfl | rfl | rfl
    · rw [e, e2] at k0; exact ⟨_, _, k0⟩
    · rw [e, e2] at k1; exact ⟨_, _, k1⟩
    · rw [e, e2] at k2; exact ⟨_, _, k2⟩
    · rw [e, e2] at k3; exact ⟨_, _, k3⟩
    · rw [e, e2] at k4; exact ⟨_, _, k4⟩
    · rw [e, e2] at k5; exact ⟨_, _, k5⟩
    · rw [e, e2] at k6; exact ⟨_, _, k6⟩
    · rw [e, e2] at k7; exact ⟨_, _, k7⟩
    · rw [e, e2] at k8; exact ⟨_, _, k8⟩
  · obtain ⟨k0, k1, k2, k3, k4, k5, k6, k7, k8⟩ := pr4_2 t x5 x6 x7 x8 x9 x10 o
    rcases eb with rfl | rfl | rfl | rfl | rfl | rfl | rfl | rfl | rfl
    · rw [e, e2] at k0; exact ⟨_, _, k0⟩
    · rw [e, e2] at k1; exact ⟨_, _, k1⟩
    · rw [e, e2] at k2; exact ⟨_, _, k2⟩
    · rw [e, e2] at k3; exact ⟨_, _, k3⟩
    · rw [e, e2] at k4; exact ⟨_, _, k4⟩
    · rw [e, e2] at k5; exact ⟨_, _, k5⟩
    · rw [e, e2] at k6; exact ⟨_, _, k6⟩
    · rw [e, e2] at k7; exact ⟨_, _, k7⟩
    · rw [e, e2] at k8; exact ⟨_, _, k8⟩
  · obtain ⟨k0, k1, k2, k3, k4, k5, k6, k7, k8⟩ := pr4_3 t x5 x6 x7 x8 x9 x10 o
    rcases eb with rfl | rfl | rfl | rfl | rfl | rfl | rfl | rfl | rfl
    · rw [e, e2] at k0; exact ⟨_, _, k0⟩
    · rw [e, e2] at k1; exact ⟨_, _, k1⟩
    · rw [e, e2] at k2; exact ⟨_, _, k2⟩
    · rw [e, e2] at k3; exact ⟨_, _, k3⟩
    · rw [e, e2] at k4; exact ⟨_, _, k4⟩
    · rw [e, e2] at k5; exact ⟨_, _, k5⟩
    · rw [e, e2] at k6; exact ⟨_, _, k6⟩
    · rw [e, e2] at k7; exact ⟨_, _, k7⟩
    · rw [e, e2] at k8; exact ⟨_, _, k8⟩
  · obtain ⟨k0, k1, k2, k3, k4, k5, k6, k7, k8⟩ := pr4_4 t x5 x6 x7 x8 x9 x10 o
    rcases eb with rfl | rfl | rfl | rfl | rfl | rfl | rfl | rfl | rfl
    · rw [e, e2] at k0; exact ⟨_, _, k0⟩
    · rw [e, e2] at k1; exact ⟨_, _, k1⟩
    · rw [e, e2] at k2; exact ⟨_, _, k2⟩
    · rw [e, e2] at k3; exact ⟨_, _, k3⟩
    · rw [e, e2] at k4; exact ⟨_, _, k4⟩
    · rw [e, e2] at k5; exact ⟨_, _, k5⟩
    · rw [e, e2] at k6; exact ⟨_, _, k6⟩
    · rw [e, e2] at k7; exact ⟨_, _, k7⟩
    · rw [e, e2] at k8; exact ⟨_, _, k8⟩
  · obtain ⟨k0, k1, k2, k3, k4, k5, k6, k7, k8⟩ := pr4_5 t x5 x6 x7 x8 x9 x10 o
    rcases eb with rfl | rfl | rfl | rfl | rfl | rfl | rfl | rfl | rfl
    · rw [e, e2] at k0; exact ⟨_, _, k0⟩
    · rw [e, e2] at k1; exact ⟨_, _, k1⟩
    · rw [e, e2] at k2; exact ⟨_, _, k2⟩
    · rw [e, e2] at k3; exact ⟨_, _, k3⟩
    · rw [e, e2] at k4; exact ⟨_, _, k4⟩
    · rw [e, e2] at k5; exact ⟨_, _, k5⟩
    · rw [e, e2] at k6; exact ⟨_, _, k6⟩
    · rw [e, e2] at k7; exact ⟨_, _, k7⟩
    · rw [e, e2] at k8; exact ⟨_, _, k8⟩
  · obtain ⟨k0, k1, k2, k3, k4, k5, k6, k7, k8⟩ := pr4_6 t x5 x6 x7 x8 x9 x10 o
    rcases eb with rfl | rfl | rfl | rfl | rfl | rfl | rfl | rfl | rfl
    · rw [e, e2] at k0; exact ⟨_, _, k0⟩
    · rw [e, e2] at k1; exact ⟨_, _, k1⟩
    · rw [e, e2] at k2; exact ⟨_, _, k2⟩
    · rw [e, e2] at k3; exact ⟨_, _, k3⟩
    · rw [e, e2] at k4; exact ⟨_, _, k4⟩
    · rw [e, e2] at k5; exact ⟨_, _, k5⟩
    · rw [e, e2] at k6; exact ⟨_, _, k6⟩
    · rw [e, e2] at k7; exact ⟨_, _, k7⟩
    · rw [e, e2] at k8; exact ⟨_, _, k8⟩
  · obtain ⟨k0, k1, k2, k3, k4, k5, k6, k7, k8⟩ := pr4_7 t x5 x6 x7 x8 x9 x10 o
    rcases eb with rfl | rfl | rfl | rfl | rfl | rfl | rfl | rfl | rfl
    · rw [e, e2] at k0; exact ⟨_, _, k0⟩
    · rw [e, e2] at k1; exact ⟨_, _, k1⟩
    · rw [e, e2] at k2; exact ⟨_, _, k2⟩
    · rw [e, e2] at k3; exact ⟨_, _, k3⟩
    · rw [e, e2] at k4; exact ⟨_, _, k4⟩
    · rw [e, e2] at k5; exact ⟨_, _, k5⟩
    · rw [e, e2] at k6; exact ⟨_, _, k6⟩
    · rw [e, e2] at k7; exact ⟨_, _, k7⟩
    · rw [e, e2] at k8; exact ⟨_, _, k8⟩
  · obtain ⟨k0, k1, k2, k3, k4, k5, k6, k7, k8⟩ := pr4_8 t x5 x6 x7 x8 x9 x10 o
    rcases eb with rfl | rfl | rfl | rfl | rfl | rfl | rfl | rfl | rfl
    · rw [e, e2] at k0; exact ⟨_, _, k0⟩
    · rw [e, e2] at k1; exact ⟨_, _, k1⟩
    · rw [e, e2] at k2; exact ⟨_, _, k2⟩
    · rw [e, e2] at k3; exact ⟨_, _, k3⟩
    · rw [e, e2] at k4; exact ⟨_, _, k4⟩
    · rw [e, e2] at k5; exact ⟨_, _, k5⟩
    · rw [e, e2] at k6; exact ⟨_, _, k6⟩
    · rw [e, e2] at k7; exact ⟨_, _, k7⟩
    · rw [e, e2] at k8; exact ⟨_, _, k8⟩
theorem sfs4 (x5 x6 x9 x10 : Option RV) (o : Orc) : (execs (ex exF G) (B.drop 9) (S4 x5 x6 none none x9 x10) [.orc (Orc.upd o 0 6 0), .scr []] = .ok (.ret (.val (.bool true))) [.orc (Orc.tl (Orc.upd o 0 6 0)), .scr []]) ∧ (execs (ex exF G) (B.drop 9) (S4 x5 x6 none none x9 x10) [.orc (Orc.upd o 0 6 1), .scr []] = .ok (.ret (.val (.bool true))) [.orc (Orc.tl (Orc.upd o 0 6 1)), .scr []]) ∧ (execs (ex exF G) (B.drop 9) (S4 x5 x6 none none x9 x10) [.orc (Orc.upd o 0 6 2), .scr []] = .ok (.ret (.val (.bool true))) [.orc (Orc.tl (Orc.upd o 0 6 2)), .scr []]) ∧ (execs (ex exF G) (B.drop 9) (S4 x5 x6 none none x9 x10) [.orc (Orc.upd o 0 6 3), .scr []] = .ok (.ret (.val (.bool true))) [.orc (Orc.tl (Orc.upd o 0 6 3)), .scr []]) ∧ (execs (ex exF G) (B.drop 9) (S4 x5 x6 none none x9 x10) [.orc (Orc.upd o 0 6 4), .scr []] = .ok (.ret (.val (.bool true))) [.orc (Orc.tl (Orc.upd o 0 6 4)), .scr []]) ∧ (execs (ex exF G) (B.drop 9) (S4 x5 x6 none none x9 x10) [.orc (Orc.upd o 0 6 5), .scr []] = .ok (.ret (.val (.bool true))) [.orc (Orc.tl (Orc.upd o 0 6 5)), .scr []]) := ⟨by kernel_rfl, by kernel_rfl, by kernel_rfl, by kernel_rfl, by kernel_rfl, by kernel_rfl⟩
theorem sf4 (x5 x6 x9 x10 : Option RV) (o : Orc) (ho : OkO o) : execs (ex exF G) (B.drop 9) (S4 x5 x6 none none x9 x10) [.orc o, .scr []] = .ok (.ret (.val (.bool true))) [.orc (Orc.tl o), .scr []] := by
  have h0 := ho 0 6 (by decide)
  have e := Orc.upd_self o 0 6
  generalize o 0 6 = a at h0 e
  have ea : a = 0 ∨ a = 1 ∨ a = 2 ∨ a = 3 ∨ a = 4 ∨ a = 5 := by omega
  obtain ⟨k0, k1, k2, k3, k4, k5⟩ := sfs4 x5 x6 x9 x10 o
  rcases ea with rfl | rfl | rfl | rfl | rfl | rfl
  · rw [e] at k0; exact k0
  · rw [e] at k1; exact k1
  · rw [e] at k2; exact k2
  · rw [e] at k3; exact k3
  · rw [e] at k4; exact k4
  · rw [e] at k5; exact k5
theorem all4 (o : Orc) (ho : OkO o) (h : o 0 9 = 4) : ∃ w', execs (ex exF G) B [V (spc 0), none, none, none, none, none, none, none, none, none, none] [.orc o] = .ok (.ret (.val (.bool true))) w' := by
  have e0 := Orc.upd_self o 0 9
  rw [h] at e0
  have p := pre4 o
  rw [e0] at p
  have eB : B = B.take 8 ++ (st8 :: B.drop 9) := rfl
  obtain ⟨a5, a10, q1⟩ := pr4 (.int 0) (V (.tuple [.str "groups", .int 5])) none none none (V (.int 0)) none (Orc.tl o) (okO_tl ho)
  obtain ⟨b5, b10, q2⟩ := pr4 (.int 1) a5 (V (.int 0)) none none (V (.int 0)) a10 (Orc.tl (Orc.tl (Orc.tl o))) (okO_tl (okO_tl (okO_tl ho)))
  have hl : ex exF G st8 (S4 (V (.tuple [.str "groups", .int 5])) none none none (V (.int 0)) none) [.orc (Orc.tl o), .scr []] = .ok (.nxt (S4 b5 (V (.int 1)) none none (V (.int 0)) b10)) [.orc (Orc.tl (Orc.tl (Orc.tl (Orc.tl (Orc.tl o))))), .scr []] := by
    rw [lp4]
    show (Fb (.int 0) _ _).bind _ = _
    rw [q1]
    show (Fb (.int 1) _ _).bind _ = _
    rw [q2]
    rfl
  have z := sf4 b5 (V (.int 1)) (V (.int 0)) b10 _ (okO_tl (okO_tl (okO_tl (okO_tl (okO_tl ho)))))
  have k := execs_app (b := st8 :: B.drop 9) p
  rw [← eB] at k
  refine ⟨[.orc (Orc.tl (Orc.tl (Orc.tl (Orc.tl (Orc.tl (Orc.tl o)))))), .scr []], k.trans ?_⟩
  show (ex exF G st8 _ _).bind _ = _
  rw [hl]
  exact z
abbrev rs5 : List D := [.tuple [.str "trimmed", .int 0], .tuple [.str "trimmed", .int 1], .tuple [.str "trimmed", .int 2], .tuple [.str "winsorized", .int 0], .tuple [.str "winsorized", .int 1], .tuple [.str "winsorized", .int 2], .tuple [.str "pairs", .int 0], .tuple [.str "groups", .int 1], .tuple [.str "groups", .int 2], .tuple [.str "groups", .int 3], .tuple [.str "groups", .int 6]]
abbrev S5 (x5 x6 x7 x8 x9 x10 : Option RV) : Sl := [V (spc 0), V (spc 1), V (.int 6), V (.list rs5), V (.int 2), x5, x6, x7, x8, x9, x10]
theorem pre5 (o : Orc) : execs (ex exF G) (B.take 8) [V (spc 0), none, none, none, none, none, none, none, none, none, none] [.orc (Orc.upd o 0 9 5)] = .ok (.nxt (S5 (V (.tuple [.str "groups", .int 6])) none none none (V (.int 0)) none)) [.orc (Orc.tl (Orc.upd o 0 9 5)), .scr []] := by kernel_rfl
theorem lp5 (x5 x6 x7 x8 x9 x10 : Option RV) (w : Wd) : ex exF G st8 (S5 x5 x6 x7 x8 x9 x10) w = forL Fb [.int 0, .int 1] (S5 x5 x6 x7 x8 x9 x10) w := by kernel_rfl
theorem pr5_0 (t : D) (x5 x6 x7 x8 x9 x10 : Option RV) (o : Orc) : (Fb t (S5 x5 x6 x7 x8 x9 x10) [.orc (Orc.upd (Orc.upd o 1 11 0) 0 11 0), .scr []] = .ok (.nxt (S5 (V (.tuple [.str "trimmed", .int 0])) (V t) x7 x8 x9 (V (.tuple [.str "trimmed", .int 0])))) [.orc (Orc.tl (Orc.tl (Orc.upd (Orc.upd o 1 11 0) 0 11 0))), .scr []]) ∧ (Fb t (S5 x5 x6 x7 x8 x9 x10) [.orc (Orc.upd (Orc.upd o 1 11 1) 0 11 0), .scr []] = .ok (.nxt (S5 (V (.tuple [.str "trimmed", .int 0])) (V t) x7 x8 x9 (V (.tuple [.str "trimmed", .int 1])))) [.orc (Orc.tl (Orc.tl (Orc.upd (Orc.upd o 1 11 1) 0 11 0))), .scr []]) ∧ (Fb t (S5 x5 x6 x7 x8 x9 x10) [.orc (Orc.upd (Orc.upd o 1 11 2) 0 11 0), .scr []] = .ok (.nxt (S5 (V (.tuple [.str "trimmed", .int 0])) (V t) x7 x8 x9 (V (.tuple [.str "trimmed", .int 2])))) [.orc (Orc.tl (Orc.tl (Orc.upd (Orc.upd o 1 11 2) 0 11 0))), .scr []]) ∧ (Fb t (S5 x5 x6 x7 x8 x9 x10) [.orc (Orc.upd (Orc.upd o 1 11 3) 0 11 0), .scr []] = .ok (.nxt (S5 (V (.tuple [.str "trimmed", .int 0])) (V t) x7 x8 x9 (V (.tuple [.str "winsorized", .int 0])))) [.orc (Orc.tl (Orc.tl (Orc.upd (Orc.upd o 1 11 3) 0 11 0))), .scr []]) ∧ (Fb t (S5 x5 x6 x7 x8 x9 x10) [.orc (Orc.upd (Orc.upd o 1 11 4) 0 11 0), .scr []] = .ok (.nxt (S5 (V (.tuple [.str "trimmed", .int 0])) (V t) x7 x8 x9 (V (.tuple [.str "winsorized", .int 1])))) [.orc (Orc.tl (Orc.tl (Orc.upd (Orc.upd o 1 11 4) 0 11 0))), .scr []]) ∧ (Fb t (S5 x5 x6 x7 x8 x9 x10) [.orc (Orc.upd (Orc.upd o 1 11 5) 0 11 0), .scr []] = .ok (.nxt (S5 (V (.tuple [.str "trimmed", .int 0])) (V t) x7 x8 x9 (V (.tuple [.str "winsorized", .int 2])))) [.orc (Orc.tl (Orc.tl (Orc.upd (Orc.upd o 1 11 5) 0 11 0))), .scr []]) ∧ (Fb t (S5 x5 x6 x7 x8 x9 x10) [.orc (Orc.upd (Orc.upd o 1 11 6) 0 11 0), .scr []] = .ok (.nxt (S5 (V (.tuple [.str "trimmed", .int 0])) (V t) x7 x8 x9 (V (.tuple [.str "pairs", .int 0])))) [.orc (Orc.tl (Orc.tl (Orc.upd (Orc.upd o 1 11 6) 0 11 0))), .scr []]) ∧ (Fb t (S5 x5 x6 x7 x8 x9 x10) [.orc (Orc.upd (Orc.upd o 1 11 7) 0 11 0), .scr []] = .ok (.nxt (S5 (V (.tuple [.str "trimmed", .int 0])) (V t) x7 x8 x9 (V (.tuple [.str "groups", .int 1])))) [.orc (Orc.tl (Orc.tl (Orc.upd (Orc.upd o 1 11 7) 0 11 0))), .scr []]) ∧ (Fb t (S5 x5 x6 x7 x8 x9 x10) [.orc (Orc.upd (Orc.upd o 1 11 8) 0 11 0), .scr []] = .ok (.nxt (S5 (V (.tuple [.str "trimmed", .int 0])) (V t) x7 x8 x9 (V (.tuple [.str "groups", .int 2])))) [.orc (Orc.tl (Orc.tl (Orc.upd (Orc.upd o 1 11 8) 0 11 0))), .scr []]) ∧ (Fb t (S5 x5 x6 x7 x8 x9 x10) [.orc (Orc.upd (Orc.upd o 1 11 9) 0 11 0), .scr []] = .ok (.nxt (S5 (V (.tuple [.str "trimmed", .int 0])) (V t) x7 x8 x9 (V (.tuple [.str "groups", .int 3])))) [.orc (Orc.tl (Orc.tl (Orc.upd (Orc.upd o 1 11 9) 0 11 0))), .scr []]) ∧ (Fb t (S5 x5 x6 x7 x8 x9 x10) [.orc (Orc.upd (Orc.upd o 1 11 10) 0 11 0), .scr []] = .ok (.nxt (S5 (V (.tuple [.str "trimmed", .int 0])) (V t) x7 x8 x9 (V (.tuple [.str "groups", .int 6])))) [.orc (Orc.tl (Orc.tl (Orc.upd (Orc.upd o 1 11 10) 0 11 0))), .scr []]) := ⟨by kernel_rfl, by kernel_rfl, by kernel_rfl, by kernel_rfl, by kernel_rfl, by kernel_rfl, by kernel_rfl, by kernel_rfl, by kernel_rfl, by kernel_rfl, by kernel_rfl⟩
theorem pr5_1 (t : D) (x5 x6 x7 x8 x9 x10 : Option RV) (o : Orc) : (Fb t (S5 x5 x6 x7 x8 x9 x10) [.orc (Orc.upd (Orc.upd o 1 11 0) 0 11 1), .scr []] = .ok (.nxt (S5 (V (.tuple [.str "trimmed", .int 1])) (V t) x7 x8 x9 (V (.tuple [.str "trimmed", .int 0])))) [.orc (Orc.tl (Orc.tl (Orc.upd (Orc.upd o 1 11 0) 0 11 1))), .scr []]) ∧ (Fb t (S5 x5 x6 x7 x8 x9 x10) [.orc (Orc.upd (Orc.upd o 1 11 1) 0 11 1), .scr []] = .ok (.nxt (S5 (V (.tuple [.str "trimmed", .int 1])) (V t) x7 x8 x9 (V (.tuple [.str "trimmed", .int 1])))) [.orc (Orc.tl (Orc.tl (Orc.upd (Orc.upd o 1 11 1) 0 11 1))), .scr []]) ∧ (Fb t (S5 x5 x6 x7 x8 x9 x10) [.orc (Orc.upd (Orc.upd o 1 11 2) 0 11 1), .scr []] = .ok (.nxt (S5 (V (.tuple [.str "trimmed", .int 1])) (V t) x7 x8 x9 (V (.tuple [.str "trimmed", .int 2])))) [.orc (Orc.tl (Orc.tl (Orc.upd (Orc.upd o 1 11 2) 0 11 1))), .scr []]) ∧ (Fb t (S5 x5 x6 x7 x8 x9 x10) [.orc (Orc.upd (Orc.upd o 1 11 3) 0 11 1), .scr []] = .ok (.nxt (S5 (V (.tuple [.str "trimmed", .int 1])) (V t) x7 x8 x9 (V (.tuple [.str "winsorized", .int 0])))) [.orc (Orc.tl (Orc.tl (Orc.upd (Orc.upd o 1 11 3) 0 11 1))), .scr []]) ∧ (Fb t (S5 x5 x6 x7 x8 x9 x10) [.orc (Orc.upd (Orc.upd o 1 11 4) 0 11 1), .scr []] = .ok (.nxt (S5 (V (.tuple [.str "trimmed", .int 1])) (V t) x7 x8 x9 (V (.tuple [.str "winsorized", .int 1])))) [.orc (Orc.tl (Orc.tl (Orc.upd (Orc.upd o 1 11 4) 0 11 1))), .scr []]) ∧ (Fb t (S5 x5 x6 x7 x8 x9 x10) [.orc (Orc.upd (Orc.upd o 1 11 5) 0 11 1), .scr []] = .ok (.nxt (S5 (V (.tuple [.str "trimmed", .int 1])) (V t) x7 x8 x9 (V (.tuple [.str "winsorized", .int 2])))) [.orc (Orc.tl (Orc.tl (Orc.upd (Orc.upd o 1 11 5) 0 11 1))), .scr []]) ∧ (Fb t (S5 x5 x6 x7 x8 x9 x10) [.orc (Orc.upd (Orc.upd o 1 11 6) 0 11 1), .scr []] = .ok (.nxt (S5 (V (.tuple [.str "trimmed", .int 1])) (V t) x7 x8 x9 (V (.tuple [.str "pairs", .int 0])))) [.orc (Orc.tl (Orc.tl (Orc.upd (Orc.upd o 1 11 6) 0 11 1))), .scr []]) ∧ (Fb t (S5 x5 x6 x7 x8 x9 x10) [.orc (Orc.upd (Orc.upd o 1 11 7) 0 11 1), .scr []] = .ok (.nxt (S5 (V (.tuple [.str "trimmed", .int 1])) (V t) x7 x8 x9 (V (.tuple [.str "groups", .int 1])))) [.orc (Orc.tl (Orc.tl (Orc.upd (Orc.upd o 1 11 7) 0 11 1))), .scr []]) ∧ (Fb t (S5 x5 x6 x7 x8 x9 x10) [.orc (Orc.upd (Orc.upd o 1 11 8) 0 11 1), .scr []] = .ok (.nxt (S5 (V (.tuple [.str "trimmed", .int 1])) (V t) x7 x8 x9 (V (.tuple [.str "groups", .int 2])))) [.orc (Orc.tl (Orc.tl (Orc.upd (Orc.upd o 1 11 8) 0 11 1))), .scr []]) ∧ (Fb t (S5 x5 x6 x7 x8 x9 x10) [.orc (Orc.upd (Orc.upd o 1 11 9) 0 11 1), .scr []] = .ok (.nxt (S5 (V (.tuple [.str "trimmed", .int 1])) (V t) x7 x8 x9 (V (.tuple [.str "groups", .int 3])))) [.orc (Orc.tl (Orc.tl (Orc.upd (Orc.upd o 1 11 9) 0 11 1))), .scr []]) ∧ (Fb t (S5 x5 x6 x7 x8 x9 x10) [.orc (Orc.upd (Orc.upd o 1 11 10) 0 11 1), .scr []] = .ok (.nxt (S5 (V (.tuple [.str "trimmed", .int 1])) (V t) x7 x8 x9 (V (.tuple [.str "groups", .int 6])))) [.orc (Orc.tl (Orc.tl (Orc.upd (Orc.upd o 1 11 10) 0 11 1))), .scr []]) := ⟨by kernel_rfl, by kernel_rfl, by kernel_rfl, by kernel_rfl, by kernel_rfl, by kernel_rfl, by kernel_rfl, by kernel_rfl, by kernel_rfl, by kernel_rfl, by kernel_rfl⟩
theorem pr5_2 (t : D) (x5 x6 x7 x8 x9 x10 : Option RV) (o : Orc) : (Fb t (S5 x5 x6 x7 x8 x9 x10) [.orc (Orc.upd (Orc.upd o 1 11 0) 0 11 2), .scr []] = .ok (.nxt (S5 (V (.tuple [.str "trimmed", .int 2])) (V t) x7 x8 x9 (V (.tuple [.str "trimmed", .int 0])))) [.orc (Orc.tl (Orc.tl (Orc.upd (Orc.upd o 1 11 0) 0 11 2))), .scr []]) ∧ (Fb t (S5 x5 x6 x7 x8 x9 x10) [.orc (Orc.upd (Orc.upd o 1 11 1) 0 11 2), .scr []] = .ok (.nxt (S5 (V (.tuple [.str "trimmed", .int 2])) (V t) x7 x8 x9 (V (.tuple [.str "trimmed", .int 1])))) [.orc (Orc.tl (Orc.tl (Orc.upd (Orc.upd o 1 11 1) 0 11 2))), .scr []]) ∧ (Fb t (S5 x5 x6 x7 x8 x9 x10) [.orc (Orc.upd (Orc.upd o 1 11 2) 0 11 2), .scr []] = .ok (.nxt (S5 (V (.tuple [.str "trimmed", .int 2])) (V t) x7 x8 x9 (V (.tuple [.str "trimmed", .int 2])))) [.orc (Orc.tl (Orc.tl (Orc.upd (Orc.upd o 1 11 2) 0 11 2))), .scr []]) ∧ (Fb t (S5 x5 x6 x7 x8 x9 x10) [.orc (Orc.upd (Orc.upd o 1 11 3) 0 11 2), .scr []] = .ok (.nxt (S5 (V (.tuple [.str "trimmed", .int 2])) (V t) x7 x8 x9 (V (.tuple [.str "winsorized", .int 0])))) [.orc (Orc.tl (Orc.tl (Orc.upd (Orc.upd o 1 11 3) 0 11 2))), .scr []]) ∧ (Fb t (S5 x5 x6 x7 x8 x9 x10) [.orc (Orc.upd (Orc.upd o 1 11 4) 0 11 2), .scr []] = .ok (.nxt (S5 (V (.tuple [.str "trimmed", .int 2])) (V t) x7 x8 x9 (V (.tuple [.str "winsorized", .int 1])))) [.orc (Orc.tl (Orc.tl (Orc.upd (Orc.upd o 1 11 4) 0 11 2))), .scr []]) ∧ (Fb t (S5 x5 x6 x7 x8 x9 x10) [.orc (Orc.upd (Orc.upd o 1 11 5) 0 11 2), .scr []] = .ok (.nxt (S5 (V (.tuple [.str "trimmed", .int 2])) (V t) x7 x8 x9 (V (.tuple [.str "winsorized", .int 2])))) [.orc (Orc.tl (Orc.tl (Orc.upd (Orc.upd o 1 11 5) 0 11 2))), .scr []]) ∧ (Fb t (S5 x5 x6 x7 x8 x9 x10) [.orc (Orc.upd (Orc.upd o 1 11 6) 0 11 2), .scr []] = .ok (.nxt (S5 (V (.tuple [.str "trimmed", .int 2])) (V t) x7 x8 x9 (V (.tuple [.str "pairs", .int 0])))) [.orc (Orc.tl (Orc.tl (Orc.upd (Orc.upd o 1 11 6) 0 11 2))), .scr []]) ∧ (Fb t (S5 x5 x6 x7 x8 x9 x10) [.orc (Orc.upd (Orc.upd o 1 11 7) 0 11 2), .scr []] = .ok (.nxt (S5 (V (.tuple [.str "trimmed", .int 2])) (V t) x7 x8 x9 (V (.tuple [.str "groups", .int 1])))) [.orc (Orc.tl (Orc.tl (Orc.upd (Orc.upd o 1 11 7) 0 11 2))), .scr []]) ∧ (Fb t (S5 x5 x6 x7 x8 x9 x10) [.orc (Orc.upd (Orc.upd o 1 11 8) 0 11 2), .scr []] = .ok (.nxt (S5 (V (.tuple [.str "trimmed", .int 2])) (V t) x7 x8 x9 (V (.tuple [.str "groups", .int 2])))) [.orc (Orc.tl (Orc.tl (Orc.upd (Orc.upd o 1 11 8) 0 11 2))), .scr []]) ∧ (Fb t (S5 x5 x6 x7 x8 x9 x10) [.orc (Orc.upd (Orc.upd o 1 11 9) 0 11 2), .scr []] = .ok (.nxt (S5 (V (.tuple [.str "trimmed", .int 2])) (V t) x7 x8 x9 (V (.tuple [.str "groups", .int 3])))) [.orc (Orc.tl (Orc.tl (Orc.upd (Orc.upd o 1 11 9) 0 11 2))), .scr []]) ∧ (Fb t (S5 x5 x6 x7 x8 x9 x10) [.orc (Orc.upd (Orc.upd o 1 11 10) 0 11 2), .scr []] = .ok (.nxt (S5 (V (.tuple [.str "trimmed", .int 2])) (V t) x7 x8 x9 (V (.tuple [.str "groups", .int 6])))) [.orc (Orc.tl (Orc.tl (Orc.upd (Orc.upd o 1 11 10) 0 11 2))), .scr []]) := ⟨by kernel_rfl, by kernel_rfl, by kernel_rfl, by kernel_rfl, by kernel_rfl, by kernel_rfl, by kernel_rfl, by kernel_rfl, by kernel_rfl, by kernel_rfl, by kernel_rfl⟩
theorem pr5_3 (t : D) (x5 x6 x7 x8 x9 x10 : Option RV) (o : Orc) : (Fb t (S5 x5 x6 x7 x8 x9 x10) [.orc (Orc.upd (Orc.upd o 1 11 0) 0 11 3), .scr []] = .ok (.nxt (S5 (V (.tuple [.str "winsorized", .int 0])) (V t) x7 x8 x9 (V (.tuple [.str "trimmed", .int 0])))) [.orc (Orc.tl (Orc.tl (Orc.upd (Orc.upd o 1 11 0) 0 11 3))), .scr []]) ∧ (Fb t (S5 x5 x6 x7 x8 x9 x10) [.orc (Orc.upd (Orc.upd o 1 11 1) 0 11 3), .scr []] = .ok (.nxt (S5 (V (.tuple [.str "winsorized", .int 0])) (V t) x7 x8 x9 (V (.tuple [.str "trimmed", .int 1])))) [.orc (Orc.tl (Orc.tl (Orc.upd (Orc.upd o 1 11 1) 0 11 3))), .scr []]) ∧ (Fb t (S5 x5 x6 x7 x8 x9 x10) [.orc (Orc.upd (Orc.upd o 1 11 2) 0 11 3), .scr []] = .ok (.nxt (S5 (V (.tuple [.str "winsorized", .int 0])) (V t) x7 x8 x9 (V (.tuple [.str "trimmed", .int 2])))) [.orc (Orc.tl (Orc.tl (Orc.upd (Orc.upd o 1 11 2) 0 11 3))), .scr []]) ∧ (Fb t (S5 x5 x6 x7 x8 x9 x10) [.orc (Orc.upd (Orc.upd o 1 11 3) 0 11 3), .scr []] = .ok (.nxt (S5 (V (.tuple [.str "winsorized", .int 0])) (V t) x7 x8 x9 (V (.tuple [.str "winsorized", .int 0])))) [.orc (Orc.tl (Orc.tl (Orc.upd (Orc.upd o 1 11 3) 0 11 3))), .scr []]) ∧ (Fb t (S5 x5 x6 x7 x8 x9 x10) [.orc (Orc.upd (Orc.upd o 1 11 4) 0 11 3), .scr []] = .ok (.nxt (S5 (V (.tuple [.str "winsorized", .int 0])) (V t) x7 x8 x9 (V (.tuple [.str "winsorized", .int 1])))) [.orc (Orc.tl (Orc.tl (Orc.upd (Orc.upd o 1 11 4) 0 11 3))), .scr []]) ∧ (Fb t (S5 x5 x6 x7 x8 x9 x10) [.orc (Orc.upd (Orc.upd o 1 11 5) 0 11 3), .scr []] = .ok (.nxt (S5 (V (.tuple [.str "winsorized", .int 0])) (V t) x7 x8 x9 (V (.tuple [.str "winsorized", .int 2])))) [.orc (Orc.tl (Orc.tl (Orc.upd (Orc.upd o 1 11 5) 0 11 3))), .scr []]) ∧ (Fb t (S5 x5 x6 x7 x8 x9 x10) [.orc (Orc.upd (Orc.upd o 1 11 6) 0 11 3), .scr []] = .ok (.nxt (S5 (V (.tuple [.str "winsorized", .int 0])) (V t) x7 x8 x9 (V (.tuple [.str "pairs", .int 0])))) [.orc (Orc.tl (Orc.tl (Orc.upd (Orc.upd o 1 11 6) 0 11 3))), .scr []]) ∧ (Fb t (S5 x5 x6 x7 x8 x9 x10) [.orc (Orc.upd (Orc.upd o 1 11 7) 0 11 3), .scr []] = .ok (.nxt (S5 (V (.tuple [.str "winsorized", .int 0])) (V t) x7 x8 x9 (V (.tuple [.str "groups", .int 1])))) [.orc (Orc.tl (Orc.tl (Orc.upd (Orc.upd o 1 11 7) 0 11 3))), .scr []]) ∧ (Fb t (S5 x5 x6 x7 x8 x9 x10) [.orc (Orc.upd (Orc.upd o 1 11 8) 0 11 3), .scr []] = .ok (.nxt (S5 (V (.tuple [.str "winsorized", .int 0])) (V t) x7 x8 x9 (V (.tuple [.str "groups", .int 2])))) [.orc (Orc.tl (Orc.tl (Orc.upd (Orc.upd o 1 11 8) 0 11 3))), .scr []]) ∧ (Fb t (S5 x5 x6 x7 x8 x9 x10) [.orc (Orc.upd (Orc.upd o 1 11 9) 0 11 3), .scr []] = .ok (.nxt (S5 (V (.tuple [.str "winsorized", .int 0])) (V t) x7 x8 x9 (V (.tuple [.str "groups", .int 3])))) [.orc (Orc.tl (Orc.tl (Orc.upd (Orc.upd o 1 11 9) 0 11 3))), .scr []]) ∧ (Fb t (S5 x5 x6 x7 x8 x9 x10) [.orc (Orc.upd (Orc.upd o 1 11 10) 0 11 3), .scr []] = .ok (.nxt (S5 (V (.tuple [.str "winsorized", .int 0])) (V t) x7 x8 x9 (V (.tuple [.str "groups", .int 6])))) [.orc (Orc.tl (Orc.tl (Orc.upd (Orc.upd o 1 11 10) 0 11 3))), .scr []]) := ⟨by kernel_rfl, by kernel_rfl, by kernel_rfl, by kernel_rfl, by kernel_rfl, by kernel_rfl, by kernel_rfl, by kernel_rfl, by kernel_rfl, by kernel_rfl, by kernel_rfl⟩
theorem pr5_4 (t : D) (x5 x6 x7 x8 x9 x10 : Option RV) (o : Orc) : (Fb t (S5 x5 x6 x7 x8 x9 x10) [.orc (Orc.upd (Orc.upd o 1 11 0) 0 11 4), .scr []] = .ok (.nxt (S5 (V (.tuple [.str "winsorized", .int 1])) (V t) x7 x8 x9 (V (.tuple [.str "trimmed", .int 0])))) [.orc (Orc.tl (Orc.tl (Orc.upd (Orc.upd o 1 11 0) 0 11 4))), .scr []]) ∧ (Fb t (S5 x5 x6 x7 x8 x9 x10) [.orc (Orc.upd (Orc.upd o 1 11 1) 0 11 4), .scr []] = .ok (.nxt (S5 (V (.tuple [.str "winsorized", .int 1])) (V t) x7 x8 x9 (V (.tuple [.str "trimmed", .int 1])))) [.orc (Orc.tl (Orc.tl (Orc.upd (Orc.upd o 1 11 1) 0 11 4))), .scr []]) ∧ (Fb t (S5 x5 x6 x7 x8 x9 x10) [.orc (Orc.upd (Orc.upd o 1 11 2) 0 11 4), .scr []] = .ok (.nxt (S5 (V (.tuple [.str "winsorized", .int 1])) (V t) x7 x8 x9 (V (.tuple [.str "trimmed", .int 2])))) [.orc (Orc.tl (Orc.tl (Orc.upd (Orc.upd o 1 11 2) 0 11 4))), .scr []]) ∧ (Fb t (S5 x5 x6 x7 x8 x9 x10) [.orc (Orc.upd (Orc.upd o 1 11 3) 0 11 4), .scr []] = .ok (.nxt (S5 (V (.tuple [.str "winsorized", .int 1])) (V t) x7 x8 x9 (V (.tuple [.str "winsorized", .int 0])))) [.orc (Orc.tl (Orc.tl (Orc.upd (Orc.upd o 1 11 3) 0 11 4))), .scr []]) ∧ (Fb t (S5 x5 x6 x7 x8 x9 x10) [.orc (Orc.upd (Orc.upd o 1 11 4) 0 11 4), .scr []] = .ok (.nxt (S5 (V (.tuple [.str "winsorized", .int 1])) (V t) x7 x8 x9 (V (.tuple [.str "winsorized", .int 1])))) [.orc (Orc.tl (Orc.tl (Orc.upd (Orc.upd o 1 11 4) 0 11 4))), .scr []]) ∧ (Fb t (S5 x5 x6 x7 x8 x9 x10) [.orc (Orc.upd (Orc.upd o 1 11 5) 0 11 4), .scr []] = .ok (.nxt (S5 (V (.tuple [.str "winsorized", .int 1])) (V t) x7 x8 x9 (V (.tuple [.str "winsorized", .int 2])))) [.orc (Orc.tl (Orc.tl (Orc.upd (Orc.upd o 1 11 5) 0 11 4))), .scr []]) ∧ (Fb t (S5 x5 x6 x7 x8 x9 x10) [.orc (Orc.upd (Orc.upd o 1 11 6) 0 11 4), .scr []] = .ok (.nxt (S5 (V (.tuple [.str "winsorized", .int 1])) (V t) x7 x8 x9 (V (.tuple [.str "pairs", .int 0])))) [.orc (Orc.tl (Orc.tl (Orc.upd (Orc.upd o 1 11 6) 0 11 4))), .scr []]) ∧ (Fb t (S5 x5 x6 x7 x8 x9 x10) [.orc (Orc.upd (Orc.upd o 1 11 7) 0 11 4), .scr []] = .ok (.nxt (S5 (V (.tuple [.str "winsorized", .int 1])) (V t) x7 x8 x9 (V (.tuple [.str "groups", .int 1])))) [.orc (Orc.tl (Orc.tl (Orc.upd (Orc.upd o 1 11 7) 0 11 4))), .scr []]) ∧ (Fb t (S5 x5 x6 x7 x8 x9 x10) [.orc (Orc.upd (Orc.upd o 1 11 8) 0 11 4), .scr []] = .ok (.nxt (S5 (V (.tuple [.str "winsorized", .int 1])) (V t) x7 x8 x9 (V (.tuple [.str "groups", .int 2])))) [.orc (Orc.tl (Orc.tl (Orc.upd (Orc.upd o 1 11 8) 0 11 4))), .scr []]) ∧ (Fb t (S5 x5 x6 x7 x8 x9 x10) [.orc (Orc.upd (Orc.upd o 1 11 9) 0 11 4), .scr []] = .ok (.nxt (S5 (V (.tuple [.str "winsorized", .int 1])) (V t) x7 x8 x9 (V (.tuple [.str "groups", .int 3])))) [.orc (Orc.tl (Orc.tl (Orc.upd (Orc.upd o 1 11 9) 0 11 4))), .scr []]) ∧ (Fb t (S5 x5 x6 x7 x8 x9 x10) [.orc (Orc.upd (Orc.upd o 1 11 10) 0 11 4), .scr []] = .ok (.nxt (S5 (V (.tuple [.str "winsorized", .int 1])) (V t) x7 x8 x9 (V (.tuple [.str "groups", .int 6])))) [.orc (Orc.tl (Orc.tl (Orc.upd (Orc.upd o 1 11 10) 0 11 4))), .scr []]) := ⟨by kernel_rfl, by kernel_rfl, by kernel_rfl, by kernel_rfl, by kernel_rfl, by kernel_rfl, by kernel_rfl, by kernel_rfl, by kernel_rfl, by kernel_rfl, by kernel_rfl⟩
theorem pr5_5 (t : D) (x5 x6 x7 x8 x9 x10 : Option RV) (o : Orc) : (Fb t (S5 x5 x6 x7 x8 x9 x10) [.orc (Orc.upd (Orc.upd o 1 11 0) 0 11 5), .scr []] = .ok (.nxt (S5 (V (.tuple [.str "winsorized", .int 2])) (V t) x7 x8 x9 (V (.tuple [.str "trimmed", .int 0])))) [.orc (Orc.tl (Orc.tl (Orc.upd (Orc.upd o 1 11 0) 0 11 5))), .scr []]) ∧ (Fb t (S5 x5 x6 x7 x8 x9 x10) [.orc (Orc.upd (Orc.upd o 1 11 1) 0 11 5), .scr []] = .ok (.nxt (S5 (V (.tuple [.str "winsorized", .int 2])) (V t) x7 x8 x9 (V (.tuple [.str "trimmed", .int 1])))) [.orc (Orc.tl (Orc.tl (Orc.upd (Orc.upd o 1 11 1) 0 11 5))), .scr []]) ∧ (Fb t (S5 x5 x6 x7 x8 x9 x10) [.orc (Orc.upd (Orc.upd o 1 11 2) 0 11 5), .scr []] = .ok (.nxt (S5 (V (.tuple [.str "winsorized", .int 2])) (V t) x7 x8 x9 (V (.tuple [.str "trimmed", .int 2])))) [.orc (Orc.tl (Orc.tl (Orc.upd (Orc.upd o 1 11 2) 0 11 5))), .scr []]) ∧ (Fb t (S5 x5 x6 x7 x8 x9 x10) [.orc (Orc.upd (Orc.upd o 1 11 3) 0 11 5), .scr []] = .ok (.nxt (S5 (V (.tuple [.str "winsorized", .int 2])) (V t) x7 x8 x9 (V (.tuple [.str "winsorized", .int 0])))) [.orc (Orc.tl (Orc.tl (Orc.upd (Orc.upd o 1 11 3) 0 11 5))), .scr []]) ∧ (Fb t (S5 x5 x6 x7 x8 x9 x10) [.orc (Orc.upd (Orc.upd o 1 11 4) 0 11 5), .scr []] = .ok (.nxt (S5 (V (.tuple [.str "winsorized", .int 2])) (V t) x7 x8 x9 (V (.tuple [.str "winsorized", .int 1])))) [.orc (Orc.tl (Orc.tl (Orc.upd (Orc.upd o 1 11 4) 0 11 5))), .scr []]) ∧ (Fb t (S5 x5 x6 x7 x8 x9 x10) [.orc (Orc.upd (Orc.upd o 1 11 5) 0 11 5), .scr []] = .ok (.nxt (S5 (V (.tuple [.str "winsorized", .int 2])) (V t) x7 x8 x9 (V (.tuple [.str "winsorized", .int 2])))) [.orc (Orc.tl (Orc.tl (Orc.upd (Orc.upd o 1 11 5) 0 11 5))), .scr []]) ∧ (Fb t (S5 x5 x6 x7 x8 x9 x10) [.orc (Orc.upd (Orc.upd o 1 11 6) 0 11 5), .scr []] = .ok (.nxt (S5 (V (.tuple [.str "winsorized", .int 2])) (V t) x7 x8 x9 (V (.tuple [.str "pairs", .int 0])))) [.orc (Orc.tl (Orc.tl (Orc.upd (Orc.upd o 1 11 6) 0 11 5))), .scr []]) ∧ (Fb t (S5 x5 x6 x7 x8 x9 x10) [.orc (Orc.upd (Orc.upd o 1 11 7) 0 11 5), .scr []] = .ok (.nxt (S5 (V (.tuple [.str "winsorized", .int 2])) (V t) x7 x8 x9 (V (.tuple [.str "groups", .int 1])))) [.orc (Orc.tl (Orc.tl (Orc.upd (Orc.upd o 1 11 7) 0 11 5))), .scr []]) ∧ (Fb t (S5 x5 x6 x7 x8 x9 x10) [.orc (Orc.upd (Orc.upd o 1 11 8) 0 11 5), .scr []] = .ok (.nxt (S5 (V (.tuple [.str "winsorized", .int 2])) (V t) x7 x8 x9 (V (.tuple [.str "groups", .int 2])))) [.orc (Orc.tl (Orc.tl (Orc.upd (Orc.upd o 1 11 8) 0 11 5))), .scr []]) ∧ (Fb t (S5 x5 x6 x7 x8 x9 x10) [.orc (Orc.upd (Orc.upd o 1 11 9) 0 11 5), .scr []] = .ok (.nxt (S5 (V (.tuple [.str "winsorized", .int 2])) (V t) x7 x8 x9 (V (.tuple [.str "groups", .int 3])))) [.orc (Orc.tl (Orc.tl (Orc.upd (Orc.upd o 1 11 9) 0 11 5))), .scr []]) ∧ (Fb t (S5 x5 x6 x7 x8 x9 x10) [.orc (Orc.upd (Orc.upd o 1 11 10) 0 11 5), .scr []] = .ok (.nxt (S5 (V (.tuple [.str "winsorized", .int 2])) (V t) x7 x8 x9 (V (.tuple [.str "groups", .int 6])))) [.orc (Orc.tl (Orc.tl (Orc.upd (Orc.upd o 1 11 10) 0 11 5))), .scr []]) := ⟨by kernel_rfl, by kernel_rfl, by kernel_rfl, by kernel_rfl, by kernel_rfl, by kernel_rfl, by kernel_rfl, by kernel_rfl, by kernel_rfl, by kernel_rfl, by kernel_rfl⟩
theorem pr5_6 (t : D) (x5 x6 x7 x8 x9 x10 : Option RV) (o : Orc) : (Fb t (S5 x5 x6 x7 x8 x9 x10) [.orc (Orc.upd (Orc.upd o 1 11 0) 0 11 6), .scr []] = .ok (.nxt (S5 (V (.tuple [.str "pairs", .int 0])) (V t) x7 x8 x9 (V (.tuple [.str "trimmed", .int 0])))) [.orc (Orc.tl (Orc.tl (Orc.upd (Orc.upd o 1 11 0) 0 11 6))), .scr []]) ∧ (Fb t (S5 x5 x6 x7 x8 x9 x10) [.orc (Orc.upd (Orc.upd o 1 11 1) 0 11 6), .scr []] = .ok (.nxt (S5 (V (.tuple [.str "pairs", .int 0])) (V t) x7 x8 x9 (V (.tuple [.str "trimmed", .int 1])))) [.orc (Orc.tl (Orc.tl (Orc.upd (Orc.upd o 1 11 1) 0 11 6))), .scr []]) ∧ (Fb t (S5 x5 x6 x7 x8 x9 x10) [.orc (Orc.upd (Orc.upd o 1 11 2) 0 11 6), .scr []] = .ok (.nxt (S5 (V (.tuple [.str "pairs", .int 0])) (V t) x7 x8 x9 (V (.tuple [.str "trimmed", .int 2])))) [.orc (Orc.tl (Orc.tl (Orc.upd (Orc.upd o 1 11 2) 0 11 6))), .scr []]) ∧ (Fb t (S5 x5 x6 x7 x8 x9 x10) [.orc (Orc.upd (Orc.upd o 1 11 3) 0 11 6), .scr []] = .ok (.nxt (S5 (V (.tuple [.str "pairs", .int 0])) (V t) x7 x8 x9 (V (.tuple [.str "winsorized", .int 0])))) [.orc (Orc.tl (Orc.tl (Orc.upd (Orc.upd o 1 11 3) 0 11 6))), .scr []]) ∧ (Fb t (S5 x5 x6 x7 x8 x9 x10) [.orc (Orc.upd (Orc.upd o 1 11 4) 0 11 6), .scr []] = .ok (.nxt (S5 (V (.tuple [.str "pairs", .int 0])) (V t) x7 x8 x9 (V (.tuple [.str "winsorized", .int 1])))) [.orc (Orc.tl (Orc.tl (Orc.upd (Orc.upd o 1 11 4) 0 11 6))), .scr []]) ∧ (Fb t (S5 x5 x6 x7 x8 x9 x10) [.orc (Orc.upd (Orc.upd o 1 11 5) 0 11 6), .scr []] = .ok (.nxt (S5 (V (.tuple [.str "pairs", .int 0])) (V t) x7 x8 x9 (V (.tuple [.str "winsorized", .int 2])))) [.orc (Orc.tl (Orc.tl (Orc.upd (Orc.upd o 1 11 5) 0 11 6))), .scr []]) ∧ (Fb t (S5 x5 x6 x7 x8 x9 x10) [.orc (Orc.upd (Orc.upd o 1 11 6) 0 11 6), .scr []] = .ok (.nxt (S5 (V (.tuple [.str "pairs", .int 0])) (V t) x7 x8 x9 (V (.tuple [.str "pairs", .int 0])))) [.orc (Orc.tl (Orc.tl (Orc.upd (Orc.upd o 1 11 6) 0 11 6))), .scr []]) ∧ (Fb t (S5 x5 x6 x7 x8 x9 x10) [.orc (Orc.upd (Orc.upd o 1 11 7) 0 11 6), .scr []] = .ok (.nxt (S5 (V (.tuple [.str "pairs", .int 0])) (V t) x7 x8 x9 (V (.tuple [.str "groups", .int 1])))) [.orc (Orc.tl (Orc.tl (Orc.upd (Orc.upd o 1 11 7) 0 11 6))), .scr []]) ∧ (Fb t (S5 x5 x6 x7 x8 x9 x10) [.orc (Orc.upd (Orc.upd o 1 11 8) 0 11 6), .scr []] = .ok (.nxt (S5 (V (.tuple [.str "pairs", .int 0])) (V t) x7 x8 x9 (V (.tuple [.str "groups", .int 2])))) [.orc (Orc.tl (Orc.tl (Orc.upd (Orc.upd o 1 11 8) 0 11 6))), .scr []]) ∧ (Fb t (S5 x5 x6 x7 x8 x9 x10) [.orc (Orc.upd (Orc.upd o 1 11 9) 0 11 6), .scr []] = .ok (.nxt (S5 (V (.tuple [.str "pairs", .int 0])) (V t) x7 x8 x9 (V (.tuple [.str "groups", .int 3])))) [.orc (Orc.tl (Orc.tl (Orc.upd (Orc.upd o 1 11 9) 0 11 6))), .scr []]) ∧ (Fb t (S5 x5 x6 x7 x8 x9 x10) [.orc (Orc.upd (Orc.upd o 1 11 10) 0 11 6), .scr []] = .ok (.nxt (S5 (V (.tuple [.str "pairs", .int 0])) (V t) x7 x8 x9 (V (.tuple [.str "groups", .int 6])))) [.orc (Orc.tl (Orc.tl (Orc.upd (Orc.upd o 1 11 10) 0 11 6))), .scr []]) := ⟨by kernel_rfl, by kernel_rfl, by kernel_rfl, by kernel_rfl, by kernel_rfl, by kernel_rfl, by kernel_rfl, by kernel_rfl, by kernel_rfl, by kernel_rfl, by kernel_rfl⟩
theorem pr5_7 (t : D) (x5 x6 x7 x8 x9 x10 : Option RV) (o : Orc) : (Fb t (S5 x5 x6 x7 x8 x9 x10) [.orc (Orc.upd (Orc.upd o 1 11 0) 0 11 7), .scr []] = .ok (.nxt (S5 (V (.tuple [.str "groups", .int 1])) (V t) x7 x8 x9 (V (.tuple [.str "trimmed", .int 0])))) [.orc (Orc.tl (Orc.tl (Orc.upd (Orc.upd o 1 11 0) 0 11 7))), .scr []]) ∧ (Fb t (S5 x5 x6 x7 x8 x9 x10) [.orc (Orc.upd (Orc.upd o 1 11 1) 0 11 7), .scr []] = .ok (.nxt (S5 (V (.tuple [.str "groups", .int 1])) (V t) x7 x8 x9 (V (.tuple [.str "trimmed", .int 1])))) [.orc (Orc.tl (Orc.tl (Orc.upd (Orc.upd o 1 11 1) 0 11 7))), .scr []]) ∧ (Fb t (S5 x5 x6 x7 x8 x9 x10) [.orc (Orc.upd (Orc.upd o 1 11 2) 0 11 7), .scr []] = .ok (.nxt (S5 (V (.tuple [.str "groups", .int 1])) (V t) x7 x8 x9 (V (.tuple [.str "trimmed", .int 2])))) [.orc (Orc.tl (Orc.tl (Orc.upd (Orc.upd o 1 11 2) 0 11 7))), .scr []]) ∧ (Fb t (S5 x5 x6 x7 x8 x9 x10) [.orc (Orc.upd (Orc.upd o 1 11 3) 0 11 7), .scr []] = .ok (.nxt (S5 (V (.tuple [.str "groups", .int 1])) (V t) x7 x8 x9 (V (.tuple [.str "winsorized", .int 0])))) [.orc (Orc.tl (Orc.tl (Orc.upd (Orc.upd o 1 11 3) 0 11 7))), .scr []]) ∧ (Fb t (S5 x5 x6 x7 x8 x9 x10) [.orc (Orc.upd (Orc.upd o 1 11 4) 0 11 7), .scr []] = .ok (.nxt (S5 (V (.tuple [.str "groups", .int 1])) (V t) x7 x8 x9 (V (.tuple [.str "winsorized", .int 1])))) [.orc (Orc.tl (Orc.tl (Orc.upd (Orc.upd o 1 11 4) 0 11 7))), .scr []]) ∧ (Fb t (S5 x5 x6 x7 x8 x9 x10) [.orc (Orc.upd (Orc.upd o 1 11 5) 0 11 7), .scr []] = .ok (.nxt (S5 (V (.tuple [.str "groups", .int 1])) (V t) x7 x8 x9 (V (.tuple [.str "winsorized", .int 2])))) [.orc (Orc.tl (Orc.tl (Orc.upd (Orc.upd o 1 11 5) 0 11 7))), .scr []]) ∧ (Fb t (S5 x5 x6 x7 x8 x9 x10) [.orc (Orc.upd (Orc.upd o 1 11 6) 0 11 7), .scr []] = .ok (.nxt (S5 (V (.tuple [.str "groups", .int 1])) (V t) x7 x8 x9 (V (.tuple [.str "pairs", .int 0])))) [.orc (Orc.tl (Orc.tl (Orc.upd (Orc.upd o 1 11 6) 0 11 7))), .scr []]) ∧ (Fb t (S5 x5 x6 x7 x8 x9 x10) [.orc (Orc.upd (Orc.upd o 1 11 7) 0 11 7), .scr []] = .ok (.nxt (S5 (V (.tuple [.str "groups", .int 1])) (V t) x7 x8 x9 (V (.tuple [.str "groups", .int 1])))) [.orc (Orc.tl (Orc.tl (Orc.upd (Orc.upd o 1 11 7) 0 11 7))), .scr []]) ∧ (Fb t (S5 x5 x6 x7 x8 x9 x10) [.orc (Orc.upd (Orc.upd o 1 11 8) 0 11 7), .scr []] = .ok (.nxt (S5 (V (.tuple [.str "groups", .int 1])) (V t) x7 x8 x9 (V (.tuple [.str "groups", .int 2])))) [.orc (Orc.tl (Orc.tl (Orc.upd (Orc.upd o 1 11 8) 0 11 7))), .scr []]) ∧ (Fb t (S5 x5 x6 x7 x8 x9 x10) [.orc (Orc.upd (Orc.upd o 1 11 9) 0 11 7), .scr []] = .ok (.nxt (S5 (V (.tuple [.str "groups", .int 1])) (V t) x7 x8 x9 (V (.tuple [.str "groups", .int 3])))) [.orc (Orc.tl (Orc.tl (Orc.upd (Orc.upd o 1 11 9) 0 11 7))), .scr []]) ∧ (Fb t (S5 x5 x6 x7 x8 x9 x10) [.orc (Orc.upd (Orc.upd o 1 11 10) 0 11 7), .scr []] = .ok (.nxt (S5 (V (.tuple [.str "groups", .int 1])) (V t) x7 x8 x9 (V (.tuple [.str "groups", .int 6])))) [.orc (Orc.tl (Orc.tl (Orc.upd (Orc.upd o 1 11 10) 0 11 7))), .scr []]) := ⟨by kernel_rfl, by kernel_rfl, by kernel_rfl, by kernel_rfl, by kernel_rfl, by kernel_rfl, by kernel_rfl, by kernel_rfl, by kernel_rfl, by kernel_rfl, by kernel_rfl⟩
theorem pr5_8 (t : D) (x5 x6 x7 x8 x9 x10 : Option RV) (o : Orc) : (Fb t (S5 x5 x6 x7 x8 x9 x10) [.orc (Orc.upd (Orc.upd o 1 11 0) 0 11 8), .scr []] = .ok (.nxt (S5 (V (.tuple [.str "groups", .int 2])) (V t) x7 x8 x9 (V (.tuple [.str "trimmed", .int 0])))) [.orc (Orc.tl (Orc.tl (Orc.upd (Orc.upd o 1 11 0) 0 11 8))), .scr []]) ∧ (Fb t (S5 x5 x6 x7 x8 x9 x10) [.orc (Orc.upd (Orc.upd o 1 11 1) 0 11 8), .scr []] = .ok (.nxt (S5 (V (.tuple [.str "groups", .int 2])) (V t) x7 x8 x9 (V (.tuple [.str "trimmed", .int 1])))) [.orc (Orc.tl (Orc.tl (Orc.upd (Orc.upd o 1 11 1) 0 11 8))), .scr []]) ∧ (Fb t (S5 x5 x6 x7 x8 x9 x10) [.orc (Orc.upd (Orc.upd o 1 11 2) 0 11 8), .scr []] = .ok (.nxt (S5 (V (.tuple [.str "groups", .int 2])) (V t) x7 x8 x9 (V (.tuple [.str "trimmed", .int 2])))) [.orc (Orc.tl (Orc.tl (Orc.upd (Orc.upd o 1 11 2) 0 11 8))), .scr []]) ∧ (Fb t (S5 x5 x6 x7 x8 x9 x10) [.orc (Orc.upd (Orc.upd o 1 11 3) 0 11 8), .scr []] = .ok (.nxt (S5 (V (.tuple [.str "groups", .int 2])) (V t) x7 x8 x9 (V (.tuple [.str "winsorized", .int 0])))) [.orc (Orc.tl (Orc.tl (Orc.upd (Orc.upd o 1 11 3) 0 11 8))), .scr []]) ∧ (Fb t (S5 x5 x6 x7 x8 x9 x10) [.orc (Orc.upd (Orc.upd o 1 11 4) 0 11 8), .scr []] = .ok (.nxt (S5 (V (.tuple [.str "groups", .int 2])) (V t) x7 x8 x9 (V (.tuple [.str "winsorized", .int 1])))) [.orc (Orc.tl (Orc.tl (Orc.upd (Orc.upd o 1 11 4) 0 11 8))), .scr []]) ∧ (Fb t (S5 x5 x6 x7 x8 x9 x10) [.orc (Orc.upd (Orc.upd o 1 11 5) 0 11 8), .scr []] = .ok (.nxt (S5 (V (.tuple [.str "groups", .int 2])) (V t) x7 x8 x9 (V (.tuple [.str "winsorized", .int 2])))) [.orc (Orc.tl (Orc.tl (Orc.upd (Orc.upd o 1 11 5) 0 11 8))), .scr []]) ∧ (Fb t (S5 x5 x6 x7 x8 x9 x10) [.orc (Orc.upd (Orc.upd o 1 11 6) 0 11 8), .scr []] = .ok (.nxt (S5 (V (.tuple [.str "groups", .int 2])) (V t) x7 x8 x9 (V (.tuple [.str "pairs", .int 0])))) [.orc (Orc.tl (Orc.tl (Orc.upd (Orc.upd o 1 11 6) 0 11 8))), .scr []]) ∧ (Fb t (S5 x5 x6 x7 x8 x9 x10) [.orc (Orc.upd (Orc.upd o 1 11 7) 0 11 8), .scr []] = .ok (.nxt (S5 (V (.tuple [.str "groups", .int 2])) (V t) x7 x8 x9 (V (.tuple [.str "groups", .int 1])))) [.orc (Orc.tl (Orc.tl (Orc.upd (Orc.upd o 1 11 7) 0 11 8))), .scr []]) ∧ (Fb t (S5 x5 x6 x7 x8 x9 x10) [.orc (Orc.upd (Orc.upd o 1 11 8) 0 11 8), .scr []] = .ok (.nxt (S5 (V (.tuple [.str "groups", .int 2])) (V t) x7 x8 x9 (V (.tuple [.str "groups", .int 2])))) [.orc (Orc.tl (Orc.tl (Orc.upd (Orc.upd o 1 11 8) 0 11 8))), .scr []]) ∧ (Fb t (S5 x5 x6 x7 x8 x9 x10) [.orc (Orc.upd (Orc.upd o 1 11 9) 0 11 8), .scr []] = .ok (.nxt (S5 (V (.tuple [.str "groups", .int 2])) (V t) x7 x8 x9 (V (.tuple [.str "groups", .int 3])))) [.orc (Orc.tl (Orc.tl (Orc.upd (Orc.upd o 1 11 9) 0 11 8))), .scr []]) ∧ (Fb t (S5 x5 x6 x7 x8 x9 x10) [.orc (Orc.upd (Orc.upd o 1 11 10) 0 11 8), .scr []] = .ok (.nxt (S5 (V (.tuple [.str "groups", .int 2])) (V t) x7 x8 x9 (V (.tuple [.str "groups", .int 6])))) [.orc (Orc.tl (Orc.tl (Orc.upd (Orc.upd o 1 11 10) 0 11 8))), .scr []]) := ⟨by kernel_rfl, by kernel_rfl, by kernel_rfl, by kernel_rfl, by kernel_rfl, by kernel_rfl, by kernel_rfl, by kernel_rfl, by kernel_rfl, by kernel_rfl, by kernel_rfl⟩
theorem pr5_9 (t : D) (x5 x6 x7 x8 x9 x10 : Option RV) (o : Orc) : (Fb t (S5 x5 x6 x7 x8 x9 x10) [.orc (Orc.upd (Orc.upd o 1 11 0) 0 11 9), .scr []] = .ok (.nxt (S5 (V (.tuple [.str "groups", .int 3])) (V t) x7 x8 x9 (V (.tuple [.str "trimmed", .int 0])))) [.orc (Orc.tl (Orc.tl (Orc.upd (Orc.upd o 1 11 0) 0 11 9))), .scr []]) ∧ (Fb t (S5 x5 x6 x7 x8 x9 x10) [.orc (Orc.upd (Orc.upd o 1 11 1) 0 11 9), .scr []] = .ok (.nxt (S5 (V (.tuple [.str "groups", .int 3])) (V t) x7 x8 x9 (V (.tuple [.str "trimmed", .int 1])))) [.orc (Orc.tl (Orc.tl (Orc.upd (Orc.upd o 1 11 1) 0 11 9))), .scr []]) ∧ (Fb t (S5 x5 x6 x7 x8 x9 x10) [.orc (Orc.upd (Orc.upd o 1 11 2) 0 11 9), .scr []] = .ok (.nxt (S5 (V (.tuple [.str "groups", .int 3])) (V t) x7 x8 x9 (V (.tuple [.str "trimmed", .int 2])))) [.orc (Orc.tl (Orc.tl (Orc.upd (Orc.upd o 1 11 2) 0 11 9))), .scr []]) ∧ (Fb t (S5 x5 x6 x7 x8 x9 x10) [.orc (Orc.upd (Orc.upd o 1 11 3) 0 11 9), .scr []] = .ok (.nxt (S5 (V (.tuple [.str "groups", .int 3])) (V t) x7 x8 x9 (V (.tuple [.str "winsorized", .int 0])))) [.orc (Orc.tl (Orc.tl (Orc.upd (Orc.upd o 1 11 3) 0 11 9))), .scr []]) ∧ (Fb t (S5 x5 x6 x7 x8 x9 x10) [.orc (Orc.upd (Orc.upd o 1 11 4) 0 11 9), .scr []] = .ok (.nxt (S5 (V (.tuple [.str "groups", .int 3])) (V t) x7 x8 x9 (V (.tuple [.str "winsorized", .int 1])))) [.orc (Orc.tl (Orc.tl (Orc.upd (Orc.upd o 1 11 4) 0 11 9))), .scr []]) ∧ (Fb t (S5 x5 x6 x7 x8 x9 x10) [.orc (Orc.upd (Orc.upd o 1 11 5) 0 11 9), .scr []] = .ok (.nxt (S5 (V (.tuple [.str "groups", .int 3])) (V t) x7 x8 x9 (V (.tuple [.str "winsorized", .int 2])))) [.orc (Orc.tl (Orc.tl (Orc.upd (Orc.upd o 1 11 5) 0 11 9))), .scr []]) ∧ (Fb t (S5 x5 x6 x7 x8 x9 x10) [.orc (Orc.upd (Orc.upd o 1 11 6) 0 11 9), .scr []] = .ok (.nxt (S5 (V (.tuple [.str "groups", .int 3])) (V t) x7 x8 x9 (V (.tuple [.str "pairs", .int 0])))) [.orc (Orc.tl (Orc.tl (Orc.upd (Orc.upd o 1 11 6) 0 11 9))), .scr []]) ∧ (Fb t (S5 x5 x6 x7 x8 x9 x10) [.orc (Orc.upd (Orc.upd o 1 11 7) 0 11 9), .scr []] = .ok (.nxt (S5 (V (.tuple [.str "groups", .int 3])) (V t) x7 x8 x9 (V (.tuple [.str "groups", .int 1])))) [.orc (Orc.tl (Orc.tl (Orc.upd (Orc.upd o 1 11 7) 0 11 9))), .scr []]) ∧ (Fb t (S5 x5 x6 x7 x8 x9 x10) [.orc (Orc.upd (Orc.upd o 1 11 8) 0 11 9), .scr []] = .ok (.nxt (S5 (V (.tuple [.str "groups", .int 3])) (V t) x7 x8 x9 (V (.tuple [.str "groups", .int 2])))) [.orc (Orc.tl (Orc.tl (Orc.upd (Orc.upd o 1 11 8) 0 11 9))), .scr []]) ∧ (Fb t (S5 x5 x6 x7 x8 x9 x10) [.orc (Orc.upd (Orc.upd o 1 11 9) 0 11 9), .scr []] = .ok (.nxt (S5 (V (.tuple [.str "groups", .int 3])) (V t) x7 x8 x9 (V (.tuple [.str "groups", .int 3])))) [.orc (Orc.tl (Orc.tl (Orc.upd (Orc.upd o 1 11 9) 0 11 9))), .scr []]) ∧ (Fb t (S5 x5 x6 x7 x8 x9 x10) [.orc (Orc.upd (Orc.upd o 1 11 10) 0 11 9), .scr []] = .ok (.nxt (S5 (V (.tuple [.str "groups", .int 3])) (V t) x7 x8 x9 (V (.tuple [.str "groups", .int 6])))) [.orc (Orc.tl (Orc.tl (Orc.upd (Orc.upd o 1 11 10) 0 11 9))), .scr []]) := ⟨by kernel_rfl, by kernel_rfl, by kernel_rfl, by kernel_rfl, by kernel_rfl, by kernel_rfl, by kernel_rfl, by kernel_rfl, by kernel_rfl, by kernel_rfl, by kernel_rfl⟩
theorem pr5_10 (t : D) (x5 x6 x7 x8 x9 x10 : Option RV) (o : Orc) : (Fb t (S5 x5 x6 x7 x8 x9 x10) [.orc (Orc.upd (Orc.upd o 1 11 0) 0 11 10), .scr []] = .ok (.nxt (S5 (V (.tuple [.str "groups", .int 6])) (V t) x7 x8 x9 (V (.tuple [.str "trimmed", .int 0])))) [.orc (Orc.tl (Orc.tl (Orc.upd (Orc.upd o 1 11 0) 0 11 10))), .scr []]) ∧ (Fb t (S5 x5 x6 x7 x8 x9 x10) [.orc (Orc.upd (Orc.upd o 1 11 1) 0 11 10), .scr []] = .ok (.nxt (S5 (V (.tuple [.str "groups", .int 6])) (V t) x7 x8 x9 (V (.tuple [.str "trimmed", .int 1])))) [.orc (Orc.tl (Orc.tl (Orc.upd (Orc.upd o 1 11 1) 0 11 10))), .scr []]) ∧ (Fb t (S5 x5 x6 x7 x8 x9 x10) [.orc (Orc.upd (Orc.upd o 1 11 2) 0 11 10), .scr []] = .ok (.nxt (S5 (V (.tuple [.str "groups", .int 6])) (V t) x7 x8 x9 (V (.tuple [.str "trimmed", .int 2])))) [.orc (Orc.tl (Orc.tl (Orc.upd (Orc.upd o 1 11 2) 0 11 10))), .scr []]) ∧ (Fb t (S5 x5 x6 x7 x8 x9 x10) [.orc (Orc.upd (Orc.upd o 1 11 3) 0 11 10), .scr []] = .ok (.nxt (S5 (V (.tuple [.str "groups", .int 6])) (V t) x7 x8 x9 (V (.tuple [.str "winsorized", .int 0])))) [.orc (Orc.tl (Orc.tl (Orc.upd (Orc.upd o 1 11 3) 0 11 10))), .scr []]) ∧ (Fb t (S5 x5 x6 x7 x8 x9 x10) [.orc (Orc.upd (Orc.upd o 1 11 4) 0 11 10), .scr []] = .ok (.nxt (S5 (V (.tuple [.str "groups", .int 6])) (V t) x7 x8 x9 (V (.tuple [.str "winsorized", .int 1])))) [.orc (Orc.tl (Orc.tl (Orc.upd (Orc.upd o 1 11 4) 0 11 10))), .scr []]) ∧ (Fb t (S5 x5 x6 x7 x8 x9 x10) [.orc (Orc.upd (Orc.upd o 1 11 5) 0 11 10), .scr []] = .ok (.nxt (S5 (V (.tuple [.str "groups", .int 6])) (V t) x7 x8 x9 (V (.tuple [.str "winsorized", .int 2])))) [.orc (Orc.tl (Orc.tl (Orc.upd (Orc.upd o 1 11 5) 0 11 10))), .scr []]) ∧ (Fb t (S5 x5 x6 x7 x8 x9 x10) [.orc (Orc.upd (Orc.upd o 1 11 6) 0 11 10), .scr []] = .ok (.nxt (S5 (V (.tuple [.str "groups", .int 6])) (V t) x7 x8 x9 (V (.tuple [.str "pairs", .int 0])))) [.orc (Orc.tl (Orc.tl (Orc.upd (Orc.upd o 1 11 6) 0 11 10))), .scr []]) ∧ (Fb t (S5 x5 x6 x7 x8 x9 x10) [.orc (Orc.upd (Orc.upd o 1 11 7) 0 11 10), .scr []] = .ok (.nxt (S5 (V (.tuple [.str "groups", .int 6])) (V t) x7 x8 x9 (V (.tuple [.str "groups", .int 1])))) [.orc (Orc.tl (Orc.tl (Orc.upd (Orc.upd o 1 11 7) 0 11 10))), .scr []]) ∧ (Fb t (S5 x5 x6 x7 x8 x9 x10) [.orc (Orc.upd (Orc.upd o 1 11 8) 0 11 10), .scr []] = .ok (.nxt (S5 (V (.tuple [.str "groups", .int 6])) (V t) x7 x8 x9 (V (.tuple [.str "groups", .int 2])))) [.orc (Orc.tl (Orc.tl (Orc.upd (Orc.upd o 1 11 8) 0 11 10))), .scr []]) ∧ (Fb t (S5 x5 x6 x7 x8 x9 x10) [.orc (Orc.upd (Orc.upd o 1 11 9) 0 11 10), .scr []] = .ok (.nxt (S5 (V (.tuple [.str "groups", .int 6])) (V t) x7 x8 x9 (V (.tuple [.str "groups", .int 3])))) [.orc (Orc.tl (Orc.tl (Orc.upd (Orc.upd o 1 11 9) 0 11 10))), .scr []]) ∧ (Fb t (S5 x5 x6 x7 x8 x9 x10) [.orc (Orc.upd (Orc.upd o 1 11 10) 0 11 10), .scr []] = .ok (.nxt (S5 (V (.tuple [.str "groups", .int 6])) (V t) x7 x8 x9 (V (.tuple [.str "groups", .int 6])))) [.orc (Orc.tl (Orc.tl (Orc.upd (Orc.upd o 1 11 10) 0 11 10))), .scr []]) := ⟨by kernel_rfl, by kernel_rfl, by kernel_rfl, by kernel_rfl, by kernel_rfl, by kernel_rfl, by kernel_rfl, by kernel_rfl, by kernel_rfl, by kernel_rfl, by kernel_rfl⟩
theorem pr5 (t : D) (x5 x6 x7 x8 x9 x10 : Option RV) (o : Orc) (ho : OkO o) : ∃ y5 y10, Fb t (S5 x5 x6 x7 x8 x9 x10) [.orc o, .scr []] = .ok (.nxt (S5 y5 (V t) x7 x8 x9 y10)) [.orc (Orc.tl (Orc.tl o)), .scr []] := by
  have h0 := ho 0 11 (by decide)
  have h1 := ho 1 11 (by decide)
  have e := Orc.upd_self o 1 11
  have e2 := Orc.upd_self o 0 11
  generalize o 0 11 = a at h0 e2
  generalize o 1 11 = b at h1 e
  have ea : a = 0 ∨ a = 1 ∨ a = 2 ∨ a = 3 ∨ a = 4 ∨ a = 5 ∨ a = 6 ∨ a = 7 ∨ a = 8 ∨ a = 9 ∨ a = 10 := by omega
  have eb : b = 0 ∨ b = 1 ∨ b = 2 ∨ b = 3 ∨ b = 4 ∨ b = 5 ∨ b = 6 ∨ b = 7 ∨ b = 8 ∨ b = 9 ∨ b = 10 := by omega
  rcases ea with rfl | rfl | rfl | rfl | rfl | rfl | rfl | rfl | rfl | rfl | rfl
  · obtain ⟨k0, k1, k2, k3, k4, k5, k6, k7, k8, k9, k10⟩ := pr5_0 t x5 x6 x7 x8 x9 x10 o
    rcases eb with rfl | rfl | rfl | rfl | rfl | rfl | rfl | rfl | rfl | rfl | rfl
    · rw [e, e2] at k0; exact ⟨_, _, k0⟩
    · rw [e, e2] at k1; exact ⟨_, _, k1⟩
    · rw [e, e2] at k2; exact ⟨_, _, k2⟩
    · rw [e, e2] at k3; exact ⟨_, _, k3⟩
    · rw [e, e2] at k4; exact ⟨_, _, k4⟩
    · rw [e, e2] at k5; exact ⟨_, _, k5⟩
    · rw [e, e2] at k6; exact ⟨_, _, k6⟩
    · rw [e, e2] at k7; exact ⟨_, _, k7⟩
    · rw [e, e2] at k8; exact ⟨_, _, k8⟩
    · rw [e, e2] at k9; exact ⟨_, _, k9⟩
    · rw [e, e2] at k10; exact ⟨_, _, k10⟩
  · obtain ⟨k0, k1, k2, k3, k4, k5, k6, k7, k8, k9, k10⟩ := pr5_1 t x5 x6 x7 x8 x9 x10 o
    rcases eb with rfl | rfl | rfl | rfl | rfl | rfl | rfl | rfl | rfl | rfl | rfl
    · rw [e, e2] at k0; exact ⟨_, _, k0⟩
    · rw [e, e2] at k1; exact ⟨_, _, k1⟩
    · rw [e, e2] at k2; exact ⟨_, _, k2⟩
    · rw [e, e2] at k3; exact ⟨_, _, k3⟩
    · rw [e, e2] at k4; exact ⟨_, _, k4⟩
    · rw [e, e2] at k5; exact ⟨_, _, k5⟩
    · rw [e, e2] at k6; exact ⟨_, _, k6⟩
    · rw [e, e2] at k7; exact ⟨_, _, k7⟩
    · rw [e, e2] at k8; exact ⟨_, _, k8⟩
    · rw [e, e2] at k9; exact ⟨_, _, k9⟩
    · rw [e, e2] at k10; exact ⟨_, _, k10⟩
  · obtain ⟨k0, k1, k2, k3, k4, k5, k6, k7, k8, k9, k10⟩ := pr5_2 t x5 x6 x7 x8 x9 x10 o
    rcases eb with rfl | rfl | rfl | rfl | rfl | rfl | rfl | rfl | rfl | rfl | rfl
    · rw [e, e2] at k0; exact ⟨_, _, k0⟩
    · rw [e, e2] at k1; exact ⟨_, _, k1⟩
    · rw [e, e2] at k2; exact ⟨_, _, k2⟩
    · rw [e, e2] at k3; exact ⟨_, _, k3⟩
    · rw [e, e2] at k4; exact ⟨_, _, k4⟩
    · rw [e, e2] at k5; exact ⟨_, _, k5⟩
    · rw [e, e2] at k6; exact ⟨_, _, k6⟩
    · rw [e, e2] at k7; exact ⟨_, _, k7⟩
    · rw [e, e2] at k8; exact ⟨_, _, k8⟩
    · rw [e, e2] at k9; exact ⟨_, _, k9⟩
    · rw [e, e2] at k10; exact ⟨_, _, k10⟩
  · obtain ⟨k0, k1, k2, k3, k4, k5, k6, k7, k8, k9, k10⟩ := pr5_3 t x5 x6 x7 x8 x9 x10 o
    rcases eb with rfl | rfl | rfl | rfl | rfl | rfl | rfl | rfl | rfl | rfl | rfl
    · rw [e, e2] at k0; exact ⟨_, _, k0⟩
    · rw [e, e2] at k1; exact ⟨_, _, k1⟩
    · rw [e, e2] at k2; exact ⟨_, _, k2⟩
    · rw [e, e2] at k3; exact ⟨_, _, k3⟩
    · rw [e, e2] at k4; exact ⟨_, _, k4⟩
    · rw [e, e2] at k5; exact ⟨_, _, k5⟩
    · rw [e, e2] at k6; exact ⟨_, _, k6⟩
    · rw [e, e2] at k7; exact ⟨_, _, k7⟩
    · rw [e, e2] at k8; exact ⟨_, _, k8⟩
    · rw [e, e2] at k9; exact ⟨_, _, k9⟩
    · rw [e, e2] at k10; exact ⟨_, _, k10⟩
  · obtain ⟨k0, k1, k2, k3, k4, k5, k6, k7, k8, k9, k10⟩ := pr5_4 t x5 x6 x7 x8 x9 x10 o
    rcases eb with rfl | rfl | rfl | rfl | rfl | rfl | rfl | rfl | rfl | rfl | rfl
    · rw [e, e2] at k0; exact ⟨_, _, k0⟩
    · rw [e, e2] at k1; exact ⟨_, _, k1⟩
    · rw [e, e2] at k2; exact ⟨_, _, k2⟩
    · rw [e, e2] at k3; exact ⟨_, _, k3⟩
    · rw [e, e2] at k4; exact ⟨_, _, k4⟩
    · rw [e, e2] at k5; exact ⟨_, _, k5⟩
    · rw [e, e2] at k6; exact ⟨_, _, k6⟩
    · rw [e, e2] at k7; exact ⟨_, _, k7⟩
    · rw [e, e2] at k8; exact ⟨_, _, k8⟩
    · rw [e, e2] at k9; exact ⟨_, _, k9⟩
    · rw [e, e2] at k10; exact ⟨_, _, k10⟩
  · obtain ⟨k0, k1, k2, k3, k4, k5, k6, k7, k8, k9, k10⟩ := pr5_5 t x5 x6 x7 x8 x9 x10 o
    rcases eb with rfl | rfl | rfl | rfl | rfl | rfl | rfl | rfl | rfl | rfl | rfl
    · rw [e, e2] at k0; exact ⟨_, _, k0⟩
    · rw [e, e2] at k1; exact ⟨_, _, k1⟩
    · rw [e, e2] at k2; exact ⟨_, _, k2⟩
    · rw [e, e2] at k3; exact ⟨_, _, k3⟩
    · rw [e, e2] at k4; exact ⟨_, _, k4⟩
    · rw [e, e2] at k5; exact ⟨_, _, k5⟩
    · rw [e, e2] at k6; exact ⟨_, _, k6⟩
    · rw [e, e2] at k7; exact ⟨_, _, k7⟩
    · rw [e, e2] at k8; exact ⟨_, _, k8⟩
    · rw [e, e2] at k9; exact ⟨_, _, k9⟩
    · rw [e, e2] at k10; exact ⟨_, _, k10⟩
  · obtain ⟨k0, k1, k2, k3, k4, k5, k6, k7, k8, k9, k10⟩ := pr5_6 t x5 x6 x7 x8 x9 x10 o
    rcases eb with rfl | rfl | rfl | rfl | rfl | rfl | rfl | rfl | rfl | rfl | rfl
    · rw [e, e2] at k0; exact ⟨_, _, k0⟩
    · rw [e, e2] at k1; exact ⟨_, _, k1⟩
    · rw [e, e2] at k2; exact ⟨_, _, k2⟩
    · rw [e, e2] at k3; exact ⟨_, _, k3⟩
    · rw [e, e2] at k4; exact ⟨_, _, k4⟩
    · rw [e, e2] at k5; exact ⟨_, _, k5⟩
    · rw [e, e2] at k6; exact ⟨_, _, k6⟩
    · rw [e, e2] at k7; exact ⟨_, _, k7⟩
    · rw [e, e2] at k8; exact ⟨_, _, k8⟩
    · rw [e, e2] at k9; exact ⟨_, _, k9⟩
    · rw [e, e2] at k10; exact ⟨_, _, k10⟩
  · obtain ⟨k0, k1, k2, k3, k4, k5, k6, k7, k8, k9, k10⟩ := pr5_7 t x5 x6 x7 x8 x9 x10 o
    rcases eb with rfl | rfl | rfl | rfl | rfl | rfl | rfl | rfl | rfl | rfl | rfl
    · rw [e, e2] at k0; exact ⟨_, _, k0⟩
    · rw [e, e2] at k1; exact ⟨_, _, k1⟩
    · rw [e, e2] at k2; exact ⟨_, _, k2⟩
    · rw [e, e2] at k3; exact ⟨_, _, k3⟩
    · rw [e, e2] at k4; exact ⟨_, _, k4⟩
    · rw [e, e2] at k5; exact ⟨_, _, k5⟩
    · rw [e, e2] at k6; exact ⟨_, _, k6⟩
    · rw [e, e2] at k7; exact ⟨_, _, k7⟩
    · rw [e, e2] at k8; exact ⟨_, _, k8⟩
    · rw [e, e2] at k9; exact ⟨_, _, k9⟩
    · rw [e, e2] at k10; exact ⟨_, _, k10⟩
  · obtain ⟨k0, k1, k2, k3, k4, k5, k6, k7, k8, k9, k10⟩ := pr5_8 t x5 x6 x7 x8 x9 x10 o
    rcases eb with rfl | rfl | rfl | rfl | rfl | rfl | rfl | rfl | rfl | rfl | rfl
    · rw [e, e2] at k0; exact ⟨_, _, k0⟩
    · rw [e, e2] at k1; exact ⟨_, _, k1⟩
    · rw [e, e2] at k2; exact ⟨_, _, k2⟩
    · rw [e, e2] at k3; exact ⟨_, _, k3⟩
    · rw [e, e2] at k4; exact ⟨_, _, k4⟩
    · rw [e, e2] at k5; exact ⟨_, _, k5⟩
    · rw [e, e2] at k6; exact ⟨_, _, k6⟩
    · rw [e, e2] at k7; exact ⟨_, _, k7⟩
    · rw [e, e2] at k8; exact ⟨_, _, k8⟩
    · rw [e, e2] at k9; exact ⟨_, _, k9⟩
    · rw [e, e2] at k10; exact ⟨_, _, k10⟩
  · obtain ⟨k0, k1, k2, k3, k4, k5, k6, k7, k8, k9, k10⟩ := pr5_9 t x5 x6 x7 x8 x9 x10 o
    rcases eb with rfl | rfl | rfl | rfl | rfl | rfl | rfl | rfl | rfl | rfl | rfl
    · rw [e, e2] at k0; exact ⟨_, _, k0⟩
    · rw [e, e2] at k1; exact ⟨_, _, k1⟩
    · rw [e, e2] at k2; exact ⟨_, _, k2⟩
    · rw [e, e2] at k3; exact ⟨_, _, k3⟩
    · rw [e, e2] at k4; exact ⟨_, _, k4⟩
    · rw [e, e2] at k5; exact ⟨_, _, k5⟩
    · rw [e, e2] at k6; exact ⟨_, _, k6⟩
    · rw [e, e2] at k7; exact ⟨_, _, k7⟩
    · rw [e, e2] at k8; exact ⟨_, _, k8⟩
    · rw [e, e2] at k9; exact ⟨_, _, k9⟩
    · rw [e, e2] at k10; exact ⟨_, _, k10⟩
  · obtain ⟨k0, k1, k2, k3, k4, k5, k6, k7, k8, k9, k10⟩ := pr5_10 t x5 x6 x7 x8 x9 x10 o
    rcases eb with rfl | rfl | rfl | rfl | rfl | rfl | rfl | rfl | rfl | rfl | rfl
    · rw [e, e2] at k0; exact ⟨_, _, k0⟩
    · rw [e, e2] at k1; exact ⟨_, _, k1⟩
    · rw [e, e2] at k2; exact ⟨_, _, k2⟩
    · rw [e, e2] at k3; exact ⟨_, _, k3⟩
    · rw [e, e2] at k4; exact ⟨_, _, k4⟩
    · rw [e, e2] at k5; exact ⟨_, _, k5⟩
    · rw [e, e2] at k6; exact ⟨_, _, k6⟩
    · rw [e, e2] at k7; exact ⟨_, _, k7⟩
    · rw [e, e2] at k8; exact ⟨_, _, k8⟩
    · rw [e, e2] at k9; exact ⟨_, _, k9⟩
    · rw [e, e2] at k10; exact ⟨_, _, k10⟩
theorem sfs5 (x5 x6 x9 x10 : Option RV) (o : Orc) : (execs (ex exF G) (B.drop 9) (S5 x5 x6 none none x9 x10) [.orc (Orc.upd o 0 7 0), .scr []] = .ok (.ret (.val (.bool true))) [.orc (Orc.tl (Orc.upd o 0 7 0)), .scr []]) ∧ (execs (ex exF G) (B.drop 9) (S5 x5 x6 none none x9 x10) [.orc (Orc.upd o 0 7 1), .scr []] = .ok (.ret (.val (.bool true))) [.orc (Orc.tl (Orc.upd o 0 7 1)), .scr []]) ∧ (execs (ex exF G) (B.drop 9) (S5 x5 x6 none none x9 x10) [.orc (Orc.upd o 0 7 2), .scr []] = .ok (.ret (.val (.bool true))) [.orc (Orc.tl (Orc.upd o 0 7 2)), .scr []]) ∧ (execs (ex exF G) (B.drop 9) (S5 x5 x6 none none x9 x10) [.orc (Orc.upd o 0 7 3), .scr []] = .ok (.ret (.val (.bool true))) [.orc (Orc.tl (Orc.upd o 0 7 3)), .scr []]) ∧ (execs (ex exF G) (B.drop 9) (S5 x5 x6 none none x9 x10) [.orc (Orc.upd o 0 7 4), .scr []] = .ok (.ret (.val (.bool true))) [.orc (Orc.tl (Orc.upd o 0 7 4)), .scr []]) ∧ (execs (ex exF G) (B.drop 9) (S5 x5 x6 none none x9 x10) [.orc (Orc.upd o 0 7 5), .scr []] = .ok (.ret (.val (.bool true))) [.orc (Orc.tl (Orc.upd o 0 7 5)), .scr []]) ∧ (execs (ex exF G) (B.drop 9) (S5 x5 x6 none none x9 x10) [.orc (Orc.upd o 0 7 6), .scr []] = .ok (.ret (.val (.bool true))) [.orc (Orc.tl (Orc.upd o 0 7 6)), .scr []]) := ⟨by kernel_rfl, by kernel_rfl, by kernel_rfl, by kernel_rfl, by kernel_rfl, by kernel_rfl, by kernel_rfl⟩
theorem sf5 (x5 x6 x9 x10 : Option RV) (o : Orc) (ho : OkO o) : execs (ex exF G) (B.drop 9) (S5 x5 x6 none none x9 x10) [.orc o, .scr []] = .ok (.ret (.val (.bool true))) [.orc (Orc.tl o), .scr []] := by
  have h0 := ho 0 7 (by decide)
  have e := Orc.upd_self o 0 7
  generalize o 0 7 = a at h0 e
  have ea : a = 0 ∨ a = 1 ∨ a = 2 ∨ a = 3 ∨ a = 4 ∨ a = 5 ∨ a = 6 := by omega
  obtain ⟨k0, k1, k2, k3, k4, k5, k6⟩ := sfs5 x5 x6 x9 x10 o
  rcases ea with rfl | rfl | rfl | rfl | rfl | rfl | rfl
  · rw [e] at k0; exact k0
  · rw [e] at k1; exact k1
  · rw [e] at k2; exact k2
  · rw [e] at k3; exact k3
  · rw [e] at k4; exact k4
  · rw [e] at k5; exact k5
  · rw [e] at k6; exact k6
theorem all5 (o : Orc) (ho : OkO o) (h : o 0 9 = 5) : ∃ w', execs (ex exF G) B [V (spc 0), none, none, none, none, none, none, none, none, none, none] [.orc o] = .ok (.ret (.val (.bool true))) w' := by
  have e0 := Orc.upd_self o 0 9
  rw [h] at e0
  have p := pre5 o
  rw [e0] at p
  have eB : B = B.take 8 ++ (st8 :: B.drop 9) := rfl
  obtain ⟨a5, a10, q1⟩ := pr5 (.int 0) (V (.tuple [.str "groups", .int 6])) none none none (V (.int 0)) none (Orc.tl o) (okO_tl ho)
  obtain ⟨b5, b10, q2⟩ := pr5 (.int 1) a5 (V (.int 0)) none none (V (.int 0)) a10 (Orc.tl (Orc.tl (Orc.tl o))) (okO_tl (okO_tl (okO_tl ho)))
  have hl : ex exF G st8 (S5 (V (.tuple [.str "groups", .int 6])) none none none (V (.int 0)) none) [.orc (Orc.tl o), .scr []] = .ok (.nxt (S5 b5 (V (.int 1)) none none (V (.int 0)) b10)) [.orc (Orc.tl (Orc.tl (Orc.tl (Orc.tl (Orc.tl o))))), .scr []] := by
    rw [lp5]
    show (Fb (.int 0) _ _).bind _ = _
    rw [q1]
    show (Fb (.int 1) _ _).bind _ = _
    rw [q2]
    rfl
  have z := sf5 b5 (V (.int 1)) (V (.int 0)) b10 _ (okO_tl (okO_tl (okO_tl (okO_tl (okO_tl ho)))))
  have k := execs_app (b := st8 :: B.drop 9) p
  rw [← eB] at k
  refine ⟨[.orc (Orc.tl (Orc.tl (Orc.tl (Orc.tl (Orc.tl (Orc.tl o)))))), .scr []], k.trans ?_⟩
  show (ex exF G st8 _ _).bind _ = _
  rw [hl]
  exact z
abbrev rs6 : List D := [.tuple [.str "trimmed", .int 0], .tuple [.str "trimmed", .int 1], .tuple [.str "trimmed", .int 2], .tuple [.str "trimmed", .int 3], .tuple [.str "winsorized", .int 0], .tuple [.str "winsorized", .int 1], .tuple [.str "winsorized", .int 2], .tuple [.str "winsorized", .int 3], .tuple [.str "pairs", .int 0], .tuple [.str "groups", .int 1], .tuple [.str "groups", .int 7]]
abbrev S6 (x5 x6 x7 x8 x9 x10 : Option RV) : Sl := [V (spc 0), V (spc 1), V (.int 7), V (.list rs6), V (.int 3), x5, x6, x7, x8, x9, x10]
theorem pre6 (o : Orc) : execs (ex exF G) (B.take 8) [V (spc 0), none, none, none, none, none, none, none, none, none, none] [.orc (Orc.upd o 0 9 6)] = .ok (.nxt (S6 (V (.tuple [.str "groups", .int 7])) none none none (V (.int 0)) none)) [.orc (Orc.tl (Orc.upd o 0 9 6)), .scr []] := by kernel_rfl
theorem lp6 (x5 x6 x7 x8 x9 x10 : Option RV) (w : Wd) : ex exF G st8 (S6 x5 x6 x7 x8 x9 x10) w = forL Fb [.int 0, .int 1] (S6 x5 x6 x7 x8 x9 x10) w := by kernel_rfl
theorem pr6_0 (t : D) (x5 x6 x7 x8 x9 x10 : Option RV) (o : Orc) : (Fb t (S6 x5 x6 x7 x8 x9 x10) [.orc (Orc.upd (Orc.upd o 1 11 0) 0 11 0), .scr []] = .ok (.nxt (S6 (V (.tuple [.str "trimmed", .int 0])) (V t) x7 x8 x9 (V (.tuple [.str "trimmed", .int 0])))) [.orc (Orc.tl (Orc.tl (Orc.upd (Orc.upd o 1 11 0) 0 11 0))), .scr []]) ∧ (Fb t (S6 x5 x6 x7 x8 x9 x10) [.orc (Orc.upd (Orc.upd o 1 11 1) 0 11 0), .scr []] = .ok (.nxt (S6 (V (.tuple [.str "trimmed", .int 0])) (V t) x7 x8 x9 (V (.tuple [.str "trimmed", .int 1])))) [.orc (Orc.tl (Orc.tl (Orc.upd (Orc.upd o 1 11 1) 0 11 0))), .scr []]) ∧ (Fb t (S6 x5 x6 x7 x8 x9 x10) [.orc (Orc.upd (Orc.upd o 1 11 2) 0 11 0), .scr []] = .ok (.nxt (S6 (V (.tuple [.str "trimmed", .int 0])) (V t) x7 x8 x9 (V (.tuple [.str "trimmed", .int 2])))) [.orc (Orc.tl (Orc.tl (Orc.upd (Orc.upd o 1 11 2) 0 11 0))), .scr []]) ∧ (Fb t (S6 x5 x6 x7 x8 x9 x10) [.orc (Orc.upd (Orc.upd o 1 11 3) 0 11 0), .scr []] = .ok (.nxt (S6 (V (.tuple [.str "trimmed", .int 0])) (V t) x7 x8 x9 (V (.tuple [.str "trimmed", .int 3])))) [.orc (Orc.tl (Orc.tl (Orc.upd (Orc.upd o 1 11 3) 0 11 0))), .scr []]) ∧ (Fb t (S6 x5 x6 x7 x8 x9 x10) [.orc (Orc.upd (Orc.upd o 1 11 4) 0 11 0), .scr []] = .ok (.nxt (S6 (V (.tuple [.str "trimmed", .int 0])) (V t) x7 x8 x9 (V (.tuple [.str "winsorized", .int 0])))) [.orc (Orc.tl (Orc.tl (Orc.upd (Orc.upd o 1 11 4) 0 11 0))), .scr []]) ∧ (Fb t (S6 x5 x6 x7 x8 x9 x10) [.orc (Orc.upd (Orc.upd o 1 11 5) 0 11 0), .scr []] = .ok (.nxt (S6 (V (.tuple [.str "trimmed", .int 0])) (V t) x7 x8 x9 (V (.tuple [.str "winsorized", .int 1])))) [.orc (Orc.tl (Orc.tl (Orc.upd (Orc.upd o 1 11 5) 0 11 0))), .scr []]) ∧ (Fb t (S6 x5 x6 x7 x8 x9 x10) [.orc (Orc.upd (Orc.upd o 1 11 6) 0 11 0), .scr []] = .ok (.nxt (S6 (V (.tuple [.str "trimmed", .int 0])) (V t) x7 x8 x9 (V (.tuple [.str "winsorized", .int 2])))) [.orc (Orc.tl (Orc.tl (Orc.upd (Orc.upd o 1 11 6) 0 11 0))), .scr []]) ∧ (Fb t (S6 x5 x6 x7 x8 x9 x10) [.orc (Orc.upd (Orc.upd o 1 11 7) 0 11 0), .scr []] = .ok (.nxt (S6 (V (.tuple [.str "trimmed", .int 0])) (V t) x7 x8 x9 (V (.tuple [.str "winsorized", .int 3])))) [.orc (Orc.tl (Orc.tl (Orc.upd (Orc.upd o 1 11 7) 0 11 0))), .scr []]) ∧ (Fb t (S6 x5 x6 x7 x8 x9 x10) [.orc (Orc.upd (Orc.upd o 1 11 8) 0 11 0), .scr []] = .ok (.nxt (S6 (V (.tuple [.str "trimmed", .int 0])) (V t) x7 x8 x9 (V (.tuple [.str "pairs", .int 0])))) [.orc (Orc.tl (Orc.tl (Orc.upd (Orc.upd o 1 11 8) 0 11 0))), .scr []]) ∧ (Fb t (S6 x5 x6 x7 x8 x9 x10) [.orc (Orc.upd (Orc.upd o 1 11 9) 0 11 0), .scr []] = .ok (.nxt (S6 (V (.tuple [.str "trimmed", .int 0])) (V t) x7 x8 x9 (V (.tuple [.str "groups", .int 1])))) [.orc (Orc.tl (Orc.tl (Orc.upd (Orc.upd o 1 11 9) 0 11 0))), .scr []]) ∧ (Fb t (S6 x5 x6 x7 x8 x9 x10) [.orc (Orc.upd (Orc.upd o 1 11 10) 0 11 0), .scr []] = .ok (.nxt (S6 (V (.tuple [.str "trimmed", .int 0])) (V t) x7 x8 x9 (V (.tuple [.str "groups", .int 7])))) [.orc (Orc.tl (Orc.tl (Orc.upd (Orc.upd o 1 11 10) 0 11 0))), .scr []]) := ⟨by kernel_rfl, by kernel_rfl, by kernel_rfl, by kernel_rfl, by kernel_rfl, by kernel_rfl, by kernel_rfl, by kernel_rfl, by kernel_rfl, by kernel_rfl, by kernel_rfl⟩
theorem pr6_1 (t : D) (x5 x6 x7 x8 x9 x10 : Option RV) (o : Orc) : (Fb t (S6 x5 x6 x7 x8 x9 x10) [.orc (Orc.upd (Orc.upd o 1 11 0) 0 11 1), .scr []] = .ok (.nxt (S6 (V (.tuple [.str "trimmed", .int 1])) (V t) x7 x8 x9 (V (.tuple [.str "trimmed", .int 0])))) [.orc (Orc.tl (Orc.tl (Orc.upd (Orc.upd o 1 11 0) 0 11 1))), .scr []]) ∧ (Fb t (S6 x5 x6 x7 x8 x9 x10) [.orc (Orc.upd (Orc.upd o 1 11 1) 0 11 1), .scr []] = .ok (.nxt (S6 (V (.tuple [.str "trimmed", .int 1])) (V t) x7 x8 x9 (V (.tuple [.str "trimmed", .int 1])))) [.orc (Orc.tl (Orc.tl (Orc.upd (Orc.upd o 1 11 1) 0 11 1))), .scr []]) ∧ (Fb t (S6 x5 x6 x7 x8 x9 x10) [.orc (Orc.upd (Orc.upd o 1 11 2) 0 11 1), .scr []] = .ok (.nxt (S6 (V (.tuple [.str "trimmed", .int 1])) (V t) x7 x8 x9 (V (.tuple [.str "trimmed", .int 2])))) [.orc (Orc.tl (Orc.tl (Orc.upd (Orc.upd o 1 11 2) 0 11 1))), .scr []]) ∧ (Fb t (S6 x5 x6 x7 x8 x9 x10) [.orc (Orc.upd (Orc.upd o 1 11 3) 0 11 1), .scr []] = .ok (.nxt (S6 (V (.tuple [.str "trimmed", .int 1])) (V t) x7 x8 x9 (V (.tuple [.str "trimmed", .int 3])))) [.orc (Orc.tl (Orc.tl (Orc.upd (Orc.upd o 1 11 3) 0 11 1))), .scr []]) ∧ (Fb t (S6 x5 x6 x7 x8 x9 x10) [.orc (Orc.upd (Orc.upd o 1 11 4) 0 11 1), .scr []] = .ok (.nxt (S6 (V (.tuple [.str "trimmed", .int 1])) (V t) x7 x8 x9 (V (.tuple [.str "winsorized", .int 0])))) [.orc (Orc.tl (Orc.tl (Orc.upd (Orc.upd o 1 11 4) 0 11 1))), .scr []]) ∧ (Fb t (S6 x5 x6 x7 x8 x9 x10) [.orc (Orc.upd (Orc.upd o 1 11 5) 0 11 1), .scr []] = .ok (.nxt (S6 (V (.tuple [.str "trimmed", .int 1])) (V t) x7 x8 x9 (V (.tuple [.str "winsorized", .int 1])))) [.orc (Orc.tl (Orc.tl (Orc.upd (Orc.upd o 1 11 5) 0 11 1))), .scr []]) ∧ (Fb t (S6 x5 x6 x7 x8 x9 x10) [.orc (Orc.upd (Orc.upd o 1 11 6) 0 11 1), .scr []] = .ok (.nxt (S6 (V (.tuple [.str "trimmed", .int 1])) (V t) x7 x8 x9 (V (.tuple [.str "winsorized", .int 2])))) [.orc (Orc.tl (Orc.tl (Orc.upd (Orc.upd o 1 11 6) 0 11 1))), .scr []]) ∧ (Fb t (S6 x5 x6 x7 x8 x9 x10) [.orc (Orc.upd (Orc.upd o 1 11 7) 0 11 1), .scr []] = .ok (.nxt (S6 (V (.tuple [.str "trimmed", .int 1])) (V t) x7 x8 x9 (V (.tuple [.str "winsorized", .int 3])))) [.orc (Orc.tl (Orc.tl (Orc.upd (Orc.upd o 1 11 7) 0 11 1))), .scr []]) ∧ (Fb t (S6 x5 x6 x7 x8 x9 x10) [.orc (Orc.upd (Orc.upd o 1 11 8) 0 11 1), .scr []] = .ok (.nxt (S6 (V (.tuple [.str "trimmed", .int 1])) (V t) x7 x8 x9 (V (.tuple [.str "pairs", .int 0])))) [.orc (Orc.tl (Orc.tl (Orc.upd (Orc.upd o 1 11 8) 0 11 1))), .scr []]) ∧ (Fb t (S6 x5 x6 x7 x8 x9 x10) [.orc (Orc.upd (Orc.upd o 1 11 9) 0 11 1), .scr []] = .ok (.nxt (S6 (V (.tuple [.str "trimmed", .int 1])) (V t) x7 x8 x9 (V (.tuple [.str "groups", .int 1])))) [.orc (Orc.tl (Orc.tl (Orc.upd (Orc.upd o 1 11 9) 0 11 1))), .scr []]) ∧ (Fb t (S6 x5 x6 x7 x8 x9 x10) [.orc (Orc.upd (Orc.upd o 1 11 10) 0 11 1), .scr []] = .ok (.nxt (S6 (V (.tuple [.str "trimmed", .int 1])) (V t) x7 x8 x9 (V (.tuple [.str "groups", .int 7])))) [.orc (Orc.tl (Orc.tl (Orc.upd (Orc.upd o 1 11 10) 0 11 1))), .scr []]) := ⟨by kernel_rfl, by kernel_rfl, by kernel_rfl, by kernel_rfl, by kernel_rfl, by kernel_rfl, by kernel_rfl, by kernel_rfl, by kernel_rfl, by kernel_rfl, by kernel_rfl⟩
theorem pr6_2 (t : D) (x5 x6 x7 x8 x9 x10 : Option RV) (o : Orc) : (Fb t (S6 x5 x6 x7 x8 x9 x10) [.orc (Orc.upd (Orc.upd o 1 11 0) 0 11 2), .scr []] = .ok (.nxt (S6 (V (.tuple [.str "trimmed", .int 2])) (V t) x7 x8 x9 (V (.tuple [.str "trimmed", .int 0])))) [.orc (Orc.tl (Orc.tl (Orc.upd (Orc.upd o 1 11 0) 0 11 2))), .scr []]) ∧ (Fb t (S6 x5 x6 x7 x8 x9 x10) [.orc (Orc.upd (Orc.upd o 1 11 1) 0 11 2), .scr []] = .ok (.nxt (S6 (V (.tuple [.str "trimmed", .int 2])) (V t) x7 x8 x9 (V (.tuple [.str "trimmed", .int 1])))) [.orc (Orc.tl (Orc.tl (Orc.upd (Orc.upd o 1 11 1) 0 11 2))), .scr []]) ∧ (Fb t (S6 x5 x6 x7 x8 x9 x10) [.orc (Orc.upd (Orc.upd o 1 11 2) 0 11 2), .scr []] = .ok (.nxt (S6 (V (.tuple [.str "trimmed", .int 2])) (V t) x7 x8 x9 (V (.tuple [.str "trimmed", .int 2])))) [.orc (Orc.tl (Orc.tl (Orc.upd (Orc.upd o 1 11 2) 0 11 2))), .scr []]) ∧ (Fb t (S6 x5 x6 x7 x8 x9 x10) [.orc (Orc.upd (Orc.upd o 1 11 3) 0 11 2), .scr []] = .ok (.nxt (S6 (V (.tuple [.str "trimmed", .int 2])) (V t) x7 x8 x9 (V (.tuple [.str "trimmed", .int 3])))) [.orc (Orc.tl (Orc.tl (Orc.upd (Orc.upd o 1 11 3) 0 11 2))), .scr []]) ∧ (Fb t (S6 x5 x6 x7 x8 x9 x10) [.orc (Orc.upd (Orc.upd o 1 11 4) 0 11 2), .scr []] = .ok (.nxt (S6 (V (.tuple [.str "trimmed", .int 2])) (V t) x7 x8 x9 (V (.tuple [.str "winsorized", .int 0])))) [.orc (Orc.tl (Orc.tl (Orc.upd (Orc.upd o 1 11 4) 0 11 2))), .scr []]) ∧ (Fb t (S6 x5 x6 x7 x8 x9 x10) [.orc (Orc.upd (Orc.upd o 1 11 5) 0 11 2), .scr []] = .ok (.nxt (S6 (V (.tuple [.str "trimmed", .int 2])) (V t) x7 x8 x9 (V (.tuple [.str "winsorized", .int 1])))) [.orc (Orc.tl (Orc.tl (Orc.upd (Orc.upd o 1 11 5) 0 11 2))), .scr []]) ∧ (Fb t (S6 x5 x6 x7 x8 x9 x10) [.orc (Orc.upd (Orc.upd o 1 11 6) 0 11 2), .scr []] = .ok (.nxt (S6 (V (.tuple [.str "trimmed", .int 2])) (V t) x7 x8 x9 (V (.tuple [.str "winsorized", .int 2])))) [.orc (Orc.tl (Orc.tl (Orc.upd (Orc.upd o 1 11 6) 0 11 2))), .scr []]) ∧ (Fb t (S6 x5 x6 x7 x8 x9 x10) [.orc (Orc.upd (Orc.upd o 1 11 7) 0 11 2), .scr []] = .ok (.nxt (S6 (V (.tuple [.str "trimmed", .int 2])) (V t) x7 x8 x9 (V (.tuple [.str "winsorized", .int 3])))) [.orc (Orc.tl (Orc.tl (Orc.upd (Orc.upd o 1 11 7) 0 11 2))), .scr []]) ∧ (Fb t (S6 x5 x6 x7 x8 x9 x10) [.orc (Orc.upd (Orc.upd o 1 11 8) 0 11 2), .scr []] = .ok (.nxt (S6 (V (.tuple [.str "trimmed", .int 2])) (V t) x7 x8 x9 (V (.tuple [.str "pairs", .int 0])))) [.orc (Orc.tl (Orc.tl (Orc.upd (Orc.upd o 1 11 8) 0 11 2))), .scr []]) ∧ (Fb t (S6 x5 x6 x7 x8 x9 x10) [.orc (Orc.upd (Orc.upd o 1 11 9) 0 11 2), .scr []] = .ok (.nxt (S6 (V (.tuple [.str "trimmed", .int 2])) (V t) x7 x8 x9 (V (.tuple [.str "groups", .int 1])))) [.orc (Orc.tl (Orc.tl (Orc.upd (Orc.upd o 1 11 9) 0 11 2))), .scr []]) ∧ (Fb t (S6 x5 x6 x7 x8 x9 x10) [.orc (Orc.upd (Orc.upd o 1 11 10) 0 11 2), .scr []] = .ok (.nxt (S6 (V (.tuple [.str "trimmed", .int 2])) (V t) x7 x8 x9 (V (.tuple [.str "groups", .int 7])))) [.orc (Orc.tl (Orc.tl (Orc.upd (Orc.upd o 1 11 10) 0 11 2))), .scr []]) := ⟨by kernel_rfl, by kernel_rfl, by kernel_rfl, by kernel_rfl, by kernel_rfl, by kernel_rfl, by kernel_rfl, by kernel_rfl, by kernel_rfl, by kernel_rfl, by kernel_rfl⟩
theorem pr6_3 (t : D) (x5 x6 x7 x8 x9 x10 : Option RV) (o : Orc) : (Fb t (S6 x5 x6 x7 x8 x9 x10) [.orc (Orc.upd (Orc.upd o 1 11 0) 0 11 3), .scr []] = .ok (.nxt (S6 (V (.tuple [.str "trimmed", .int 3])) (V t) x7 x8 x9 (V (.tuple [.str "trimmed", .int 0])))) [.orc (Orc.tl (Orc.tl (Orc.upd (Orc.upd o 1 11 0) 0 11 3))), .scr []]) ∧ (Fb t (S6 x5 x6 x7 x8 x9 x10) [.orc (Orc.upd (Orc.upd o 1 11 1) 0 11 3), .scr []] = .ok (.nxt (S6 (V (.tuple [.str "trimmed", .int 3])) (V t) x7 x8 x9 (V (.tuple [.str "trimmed", .int 1])))) [.orc (Orc.tl (Orc.tl (Orc.upd (Orc.upd o 1 11 1) 0 11 3))), .scr []]) ∧ (Fb t (S6 x5 x6 x7 x8 x9 x10) [.orc (Orc.upd (Orc.upd o 1 11 2) 0 11 3), .scr []] = .ok (.nxt (S6 (V (.tuple [.str "trimmed", .int 3])) (V t) x7 x8 x9 (V (.tuple [.str "trimmed", .int 2])))) [.orc (Orc.tl (Orc.tl (Orc.upd (Orc.upd o 1 11 2) 0 11 3))), .scr []]) ∧ (Fb t (S6 x5 x6 x7 x8 x9 x10) [.orc (Orc.upd (Orc.upd o 1 11 3) 0 11 3), .scr []] = .ok (.nxt (S6 (V (.tuple [.str "trimmed", .int 3])) (V t) x7 x8 x9 (V (.tuple [.str "trimmed", .int 3])))) [.orc (Orc.tl (Orc.tl (Orc.upd (Orc.upd o 1 11 3) 0 11 3))), .scr []]) ∧ (Fb t (S6 x5 x6 x7 x8 x9 x10) [.orc (Orc.upd (Orc.upd o 1 11 4) 0 11 3), .scr []] = .ok (.nxt (S6 (V (.tuple [.str "trimmed", .int 3])) (V t) x7 x8 x9 (V (.tuple [.str "winsorized", .int 0])))) [.orc (Orc.tl (Orc.tl (Orc.upd (Orc.upd o 1 11 4) 0 11 3))), .scr []]) ∧ (Fb t (S6 x5 x6 x7 x8 x9 x10) [.orc (Orc.upd (Orc.upd o 1 11 5) 0 11 3), .scr []] = .ok (.nxt (S6 (V (.tuple [.str "trimmed", .int 3])) (V t) x7 x8 x9 (V (.tuple [.str "winsorized", .int 1])))) [.orc (Orc.tl (Orc.tl (Orc.upd (Orc.upd o 1 11 5) 0 11 3))), .scr []]) ∧ (Fb t (S6 x5 x6 x7 x8 x9 x10) [.orc (Orc.upd (Orc.upd o 1 11 6) 0 11 3), .scr []] = .ok (.nxt (S6 (V (.tuple [.str "trimmed", .int 3])) (V t) x7 x8 x9 (V (.tuple [.str "winsorized", .int 2])))) [.orc (Orc.tl (Orc.tl (Orc.upd (Orc.upd o 1 11 6) 0 11 3))), .scr []]) ∧ (Fb t (S6 x5 x6 x7 x8 x9 x10) [.orc (Orc.upd (Orc.upd o 1 11 7) 0 11 3), .scr []] = .ok (.nxt (S6 (V (.tuple [.str "trimmed", .int 3])) (V t) x7 x8 x9 (V (.tuple [.str "winsorized", .int 3])))) [.orc (Orc.tl (Orc.tl (Orc.upd (Orc.upd o 1 11 7) 0 11 3))), .scr []]) ∧ (Fb t (S6 x5 x6 x7 x8 x9 x10) [.orc (Orc.upd (Orc.upd o 1 11 8) 0 11 3), .scr []] = .ok (.nxt (S6 (V (.tuple [.str "trimmed", .int 3])) (V t) x7 x8 x9 (V (.tuple [.str "pairs", .int 0])))) [.orc (Orc.tl (Orc.tl (Orc.upd (Orc.upd o 1 11 8) 0 11 3))), .scr []]) ∧ (Fb t (S6 x5 x6 x7 x8 x9 x10) [.orc (Orc.upd (Orc.upd o 1 11 9) 0 11 3), .scr []] = .ok (.nxt (S6 (V (.tuple [.str "trimmed", .int 3])) (V t) x7 x8 x9 (V (.tuple [.str "groups", .int 1])))) [.orc (Orc.tl (Orc.tl (Orc.upd (Orc.upd o 1 11 9) 0 11 3))), .scr []]) ∧ (Fb t (S6 x5 x6 x7 x8 x9 x10) [.orc (Orc.upd (Orc.upd o 1 11 10) 0 11 3), .scr []] = .ok (.nxt (S6 (V (.tuple [.str "trimmed", .int 3])) (V t) x7 x8 x9 (V (.tuple [.str "groups", .int 7])))) [.orc (Orc.tl (Orc.tl (Orc.upd (Orc.upd o 1 11 10) 0 11 3))), .scr []]) := ⟨by kernel_rfl, by kernel_rfl, by kernel_rfl, by kernel_rfl, by kernel_rfl, by kernel_rfl, by kernel_rfl, by kernel_rfl, by kernel_rfl, by kernel_rfl, by kernel_rfl⟩
theorem pr6_4 (t : D) (x5 x6 x7 x8 x9 x10 : Option RV) (o : Orc) : (Fb t (S6 x5 x6 x7 x8 x9 x10) [.orc (Orc.upd (Orc.upd o 1 11 0) 0 11 4), .scr []] = .ok (.nxt (S6 (V (.tuple [.str "winsorized", .int 0])) (V t) x7 x8 x9 (V (.tuple [.str "trimmed", .int 0])))) [.orc (Orc.tl (Orc.tl (Orc.upd (Orc.upd o 1 11 0) 0 11 4))), .scr []]) ∧ (Fb t (S6 x5 x6 x7 x8 x9 x10) [.orc (Orc.upd (Orc.upd o 1 11 1) 0 11 4), .scr []] = .ok (.nxt (S6 (V (.tuple [.str "winsorized", .int 0])) (V t) x7 x8 x9 (V (.tuple [.str "trimmed", .int 1])))) [.orc (Orc.tl (Orc.tl (Orc.upd (Orc.upd o 1 11 1) 0 11 4))), .scr []]) ∧ (Fb t (S6 x5 x6 x7 x8 x9 x10) [.orc (Orc.upd (Orc.upd o 1 11 2) 0 11 4), .scr []] = .ok (.nxt (S6 (V (.tuple [.str "winsorized", .int 0])) (V t) x7 x8 x9 (V (.tuple [.str "trimmed", .int 2])))) [.orc (Orc.tl (Orc.tl (Orc.upd (Orc.upd o 1 11 2) 0 11 4))), .scr []]) ∧ (Fb t (S6 x5 x6 x7 x8 x9 x10) [.orc (Orc.upd (Orc.upd o 1 11 3) 0 11 4), .scr []] = .ok (.nxt (S6 (V (.tuple [.str "winsorized", .int 0])) (V t) x7 x8 x9 (V (.tuple [.str "trimmed", .int 3])))) [.orc (Orc.tl (Orc.tl (Orc.upd (Orc.upd o 1 11 3) 0 11 4))), .scr []]) ∧ (Fb t (S6 x5 x6 x7 x8 x9 x10) [.orc (Orc.upd (Orc.upd o 1 11 4) 0 11 4), .scr []] = .ok (.nxt (S6 (V (.tuple [.str "winsorized", .int 0])) (V t) x7 x8 x9 (V (.tuple [.str "winsorized", .int 0])))) [.orc (Orc.tl (Orc.tl (Orc.upd (Orc.upd o 1 11 4) 0 11 4))), .scr []]) ∧ (Fb t (S6 x5 x6 x7 x8 x9 x10) [.orc (Orc.upd (Orc.upd o 1 11 5) 0 11 4), .scr []] = .ok (.nxt (S6 (V (.tuple [.str "winsorized", .int 0])) (V t) x7 x8 x9 (V (.tuple [.str "winsorized", .int 1])))) [.orc (Orc.tl (Orc.tl (Orc.upd (Orc.upd o 1 11 5) 0 11 4))), .scr []]) ∧ (Fb t (S6 x5 x6 x7 x8 x9 x10) [.orc (Orc.upd (Orc.upd o 1 11 6) 0 11 4), .scr []] = .ok (.nxt (S6 (V (.tuple [.str "winsorized", .int 0])) (V t) x7 x8 x9 (V (.tuple [.str "winsorized", .int 2])))) [.orc (Orc.tl (Orc.tl (Orc.upd (Orc.upd o 1 11 6) 0 11 4))), .scr []]) ∧ (Fb t (S6 x5 x6 x7 x8 x9 x10) [.orc (Orc.upd (Orc.upd o 1 11 7) 0 11 4), .scr []] = .ok (.nxt (S6 (V (.tuple [.str "winsorized", .int 0])) (V t) x7 x8 x9 (V (.tuple [.str "winsorized", .int 3])))) [.orc (Orc.tl (Orc.tl (Orc.upd (Orc.upd o 1 11 7) 0 11 4))), .scr []]) ∧ (Fb t (S6 x5 x6 x7 x8 x9 x10) [.orc (Orc.upd (Orc.upd o 1 11 8) 0 11 4), .scr []] = .ok (.nxt (S6 (V (.tuple [.str "winsorized", .int 0])) (V t) x7 x8 x9 (V (.tuple [.str "pairs", .int 0])))) [.orc (Orc.tl (Orc.tl (Orc.upd (Orc.upd o 1 11 8) 0 11 4))), .scr []]) ∧ (Fb t (S6 x5 x6 x7 x8 x9 x10) [.orc (Orc.upd (Orc.upd o 1 11 9) 0 11 4), .scr []] = .ok (.nxt (S6 (V (.tuple [.str "winsorized", .int 0])) (V t) x7 x8 x9 (V (.tuple [.str "groups", .int 1])))) [.orc (Orc.tl (Orc.tl (Orc.upd (Orc.upd o 1 11 9) 0 11 4))), .scr []]) ∧ (Fb t (S6 x5 x6 x7 x8 x9 x10) [.orc (Orc.upd (Orc.upd o 1 11 10) 0 11 4), .scr []] = .ok (.nxt (S6 (V (.tuple [.str "winsorized", .int 0])) (V t) x7 x8 x9 (V (.tuple [.str "groups", .int 7])))) [.orc (Orc.tl (Orc.tl (Orc.upd (Orc.upd o 1 11 10) 0 11 4))), .scr []]) := ⟨by kernel_rfl, by kernel_rfl, by kernel_rfl, by kernel_rfl, by kernel_rfl, by kernel_rfl, by kernel_rfl, by kernel_rfl, by kernel_rfl, by kernel_rfl, by kernel_rfl⟩
theorem pr6_5 (t : D) (x5 x6 x7 x8 x9 x10 : Option RV) (o : Orc) : (Fb t (S6 x5 x6 x7 x8 x9 x10) [.orc (Orc.upd (Orc.upd o 1 11 0) 0 11 5), .scr []] = .ok (.nxt (S6 (V (.tuple [.str "winsorized", .int 1])) (V t) x7 x8 x9 (V (.tuple [.str "trimmed", .int 0])))) [.orc (Orc.tl (Orc.tl (Orc.upd (Orc.upd o 1 11 0) 0 11 5))), .scr []]) ∧ (Fb t (S6 x5 x6 x7 x8 x9 x10) [.orc (Orc.upd (Orc.upd o 1 11 1) 0 11 5), .scr []] = .ok (.nxt (S6 (V (.tuple [.str "winsorized", .int 1])) (V t) x7 x8 x9 (V (.tuple [.str "trimmed", .int 1])))) [.orc (Orc.tl (Orc.tl (Orc.upd (Orc.upd o 1 11 1) 0 11 5))), .scr []]) ∧ (Fb t (S6 x5 x6 x7 x8 x9 x10) [.orc (Orc.upd (Orc.upd o 1 11 2) 0 11 5), .scr []] = .ok (.nxt (S6 (V (.tuple [.str "winsorized", .int 1])) (V t) x7 x8 x9 (V (.tuple [.str "trimmed", .int 2])))) [.orc (Orc.tl (Orc.tl (Orc.upd (Orc.upd o 1 11 2) 0 11 5))), .scr []]) ∧ (Fb t (S6 x5 x6 x7 x8 x9 x10) [.orc (Orc.upd (Orc.upd o 1 11 3) 0 11 5), .scr []] = .ok (.nxt (S6 (V (.tuple [.str "winsorized", .int 1])) (V t) x7 x8 x9 (V (.tuple [.str "trimmed", .int 3])))) [.orc (Orc.tl (Orc.tl (Orc.upd (Orc.upd o 1 11 3) 0 11 5))), .scr []]) ∧ (Fb t (S6 x5 x6 x7 x8 x9 x10) [.orc (Orc.upd (Orc.upd o 1 11 4) 0 11 5), .scr []] = .ok (.nxt (S6 (V (.tuple [.str "winsorized", .int 1])) (V t) x7 x8 x9 (V (.tuple [.str "winsorized", .int 0])))) [.orc (Orc.tl (Orc.tl (Orc.upd (Orc.upd o 1 11 4) 0 11 5))), .scr []]) ∧ (Fb t (S6 x5 x6 x7 x8 x9 x10) [.orc (Orc.upd (Orc.upd o 1 11 5) 0 11 5), .scr []] = .ok (.nxt (S6 (V (.tuple [.str "winsorized", .int 1])) (V t) x7 x8 x9 (V (.tuple [.str "winsorized", .int 1])))) [.orc (Orc.tl (Orc.tl (Orc.upd (Orc.upd o 1 11 5) 0 11 5))), .scr []]) ∧ (Fb t (S6 x5 x6 x7 x8 x9 x10) [.orc (Orc.upd (Orc.upd o 1 11 6) 0 11 5), .scr []] = .ok (.nxt (S6 (V (.tuple [.str "winsorized", .int 1])) (V t) x7 x8 x9 (V (.tuple [.str "winsorized", .int 2])))) [.orc (Orc.tl (Orc.tl (Orc.upd (Orc.upd o 1 11 6) 0 11 5))), .scr []]) ∧ (Fb t (S6 x5 x6 x7 x8 x9 x10) [.orc (Orc.upd (Orc.upd o 1 11 7) 0 11 5), .scr []] = .ok (.nxt (S6 (V (.tuple [.str "winsorized", .int 1])) (V t) x7 x8 x9 (V (.tuple [.str "winsorized", .int 3])))) [.orc (Orc.tl (Orc.tl (Orc.upd (Orc.upd o 1 11 7) 0 11 5))), .scr []]) ∧ (Fb t (S6 x5 x6 x7 x8 x9 x10) [.orc (Orc.upd (Orc.upd o 1 11 8) 0 11 5), .scr []] = .ok (.nxt (S6 (V (.tuple [.str "winsorized", .int 1])) (V t) x7 x8 x9 (V (.tuple [.str "pairs", .int 0])))) [.orc (Orc.tl (Orc.tl (Orc.upd (Orc.upd o 1 11 8) 0 11 5))), .scr []]) ∧ (Fb t (S6 x5 x6 x7 x8 x9 x10) [.orc (Orc.upd (Orc.upd o 1 11 9) 0 11 5), .scr []] = .ok (.nxt (S6 (V (.tuple [.str "winsorized", .int 1])) (V t) x7 x8 x9 (V (.tuple [.str "groups", .int 1])))) [.orc (Orc.tl (Orc.tl (Orc.upd (Orc.upd o 1 11 9) 0 11 5))), .scr []]) ∧ (Fb t (S6 x5 x6 x7 x8 x9 x10) [.orc (Orc.upd (Orc.upd o 1 11 10) 0 11 5), .scr []] = .ok (.nxt (S6 (V (.tuple [.str "winsorized", .int 1])) (V t) x7 x8 x9 (V (.tuple [.str "groups", .int 7])))) [.orc (Orc.tl (Orc.tl (Orc.upd (Orc.upd o 1 11 10) 0 11 5))), .scr []]) := ⟨by kernel_rfl, by kernel_rfl, by kernel_rfl, by kernel_rfl, by kernel_rfl, by kernel_rfl, by kernel_rfl, by kernel_rfl, by kernel_rfl, by kernel_rfl, by kernel_rfl⟩
theorem pr6_6 (t : D) (x5 x6 x7 x8 x9 x10 : Option RV) (o : Orc) : (Fb t (S6 x5 x6 x7 x8 x9 x10) [.orc (Orc.upd (Orc.upd o 1 11 0) 0 11 6), .scr []] = .ok (.nxt (S6 (V (.tuple [.str "winsorized", .int 2])) (V t) x7 x8 x9 (V (.tuple [.str "trimmed", .int 0])))) [.orc (Orc.tl (Orc.tl (Orc.upd (Orc.upd o 1 11 0) 0 11 6))), .scr []]) ∧ (Fb t (S6 x5 x6 x7 x8 x9 x10) [.orc (Orc.upd (Orc.upd o 1 11 1) 0 11 6), .scr []] = .ok (.nxt (S6 (V (.tuple [.str "winsorized", .int 2])) (V t) x7 x8 x9 (V (.tuple [.str "trimmed", .int 1])))) [.orc (Orc.tl (Orc.tl (Orc.upd (Orc.upd o 1 11 1) 0 11 6))), .scr []]) ∧ (Fb t (S6 x5 x6 x7 x8 x9 x10) [.orc (Orc.upd (Orc.upd o 1 11 2) 0 11 6), .scr []] = .ok (.nxt (S6 (V (.tuple [.str "winsorized", .int 2])) (V t) x7 x8 x9 (V (.tuple [.str "trimmed", .int 2])))) [.orc (Orc.tl (Orc.tl (Orc.upd (Orc.upd o 1 11 2) 0 11 6))), .scr []]) ∧ (Fb t (S6 x5 x6 x7 x8 x9 x10) [.orc (Orc.upd (Orc.upd o 1 11 3) 0 11 6), .scr []] = .ok (.nxt (S6 (V (.tuple [.str "winsorized", .int 2])) (V t) x7 x8 x9 (V (.tuple [.str "trimmed", .int 3])))) [.orc (Orc.tl (Orc.tl (Orc.upd (Orc.upd o 1 11 3) 0 11 6))), .scr []]) ∧ (Fb t (S6 x5 x6 x7 x8 x9 x10) [.orc (Orc.upd (Orc.upd o 1 11 4) 0 11 6), .scr []] = .ok (.nxt (S6 (V (.tuple [.str "winsorized", .int 2])) (V t) x7 x8 x9 (V (.tuple [.str "winsorized", .int 0])))) [.orc (Orc.tl (Orc.tl (Orc.upd (Orc.upd o 1 11 4) 0 11 6))), .scr []]) ∧ (Fb t (S6 x5 x6 x7 x8 x9 x10) [.orc (Orc.upd (Orc.upd o 1 11 5) 0 11 6), .scr []] = .ok (.nxt (S6 (V (.tuple [.str "winsorized", .int 2])) (V t) x7 x8 x9 (V (.tuple [.str "winsorized", .int 1])))) [.orc (Orc.tl (Orc.tl (Orc.upd (Orc.upd o 1 11 5) 0 11 6))), .scr []]) ∧ (Fb t (S6 x5 x6 x7 x8 x9 x10) [.orc (Orc.upd (Orc.upd o 1 11 6) 0 11 6), .scr []] = .ok (.nxt (S6 (V (.tuple [.str "winsorized", .int 2])) (V t) x7 x8 x9 (V (.tuple [.str "winsorized", .int 2])))) [.orc (Orc.tl (Orc.tl (Orc.upd (Orc.upd o 1 11 6) 0 11 6))), .scr []]) ∧ (Fb t (S6 x5 x6 x7 x8 x9 x10) [.orc (Orc.upd (Orc.upd o 1 11 7) 0 11 6), .scr []] = .ok (.nxt (S6 (V (.tuple [.str "winsorized", .int 2])) (V t) x7 x8 x9 (V (.tuple [.str "winsorized", .int 3])))) [.orc (Orc.tl (Orc.tl (Orc.upd (Orc.upd o 1 11 7) 0 11 6))), .scr []]) ∧ (Fb t (S6 x5 x6 x7 x8 x9 x10) [.orc (Orc.upd (Orc.upd o 1 11 8) 0 11 6), .scr []] = .ok (.nxt (S6 (V (.tuple [.str "winsorized", .int 2])) (V t) x7 x8 x9 (V (.tuple [.str "pairs", .int 0])))) [.orc (Orc.tl (Orc.tl (Orc.upd (Orc.upd o 1 11 8) 0 11 6))), .scr []]) ∧ (Fb t (S6 x5 x6 x7 x8 x9 x10) [.orc (Orc.upd (Orc.upd o 1 11 9) 0 11 6), .scr []] = .ok (.nxt (S6 (V (.tuple [.str "winsorized", .int 2])) (V t) x7 x8 x9 (V (.tuple [.str "groups", .int 1])))) [.orc (Orc.tl (Orc.tl (Orc.upd (Orc.upd o 1 11 9) 0 11 6))), .scr []]) ∧ (Fb t (S6 x5 x6 x7 x8 x9 x10) [.orc (Orc.upd (Orc.upd o 1 11 10) 0 11 6), .scr []] = .ok (.nxt (S6 (V (.tuple [.str "winsorized", .int 2])) (V t) x7 x8 x9 (V (.tuple [.str "groups", .int 7])))) [.orc (Orc.tl (Orc.tl (Orc.upd (Orc.upd o 1 11 10) 0 11 6))), .scr []]) := ⟨by kernel_rfl, by kernel_rfl, by kernel_rfl, by kernel_rfl, by kernel_rfl, by kernel_rfl, by kernel_rfl, by kernel_rfl, by kernel_rfl, by kernel_rfl, by kernel_rfl⟩
theorem pr6_7 (t : D) (x5 x6 x7 x8 x9 x10 : Option RV) (o : Orc) : (Fb t (S6 x5 x6 x7 x8 x9 x10) [.orc (Orc.upd (Orc.upd o 1 11 0) 0 11 7), .scr []] = .ok (.nxt (S6 (V (.tuple [.str "winsorized", .int 3])) (V t) x7 x8 x9 (V (.tuple [.str "trimmed", .int 0])))) [.orc (Orc.tl (Orc.tl (Orc.upd (Orc.upd o 1 11 0) 0 11 7))), .scr []]) ∧ (Fb t (S6 x5 x6 x7 x8 x9 x10) [.orc (Orc.upd (Orc.upd o 1 11 1) 0 11 7), .scr []] = .ok (.nxt (S6 (V (.tuple [.str "winsorized", .int 3])) (V t) x7 x8 x9 (V (.tuple [.str "trimmed", .int 1])))) [.orc (Orc.tl (Orc.tl (Orc.upd (Orc.upd o 1 11 1) 0 11 7))), .scr []]) ∧ (Fb t (S6 x5 x6 x7 x8 x9 x10) [.orc (Orc.upd (Orc.upd o 1 11 2) 0 11 7), .scr []] = .ok (.nxt (S6 (V (.tuple [.str "winsorized", .int 3])) (V t) x7 x8 x9 (V (.tuple [.str "trimmed", .int 2])))) [.orc (Orc.tl (Orc.tl (Orc.upd (Orc.upd o 1 11 2) 0 11 7))), .scr []]) ∧ (Fb t (S6 x5 x6 x7 x8 x9 x10) [.orc (Orc.upd (Orc.upd o 1 11 3) 0 11 7), .scr []] = .ok (.nxt (S6 (V (.tuple [.str "winsorized", .int 3])) (V t) x7 x8 x9 (V (.tuple [.str "trimmed", .int 3])))) [.orc (Orc.tl (Orc.tl (Orc.upd (Orc.upd o 1 11 3) 0 11 7))), .scr []]) ∧ (Fb t (S6 x5 x6 x7 x8 x9 x10) [.orc (Orc.upd (Orc.upd o 1 11 4) 0 11 7), .scr []] = .ok (.nxt (S6 (V (.tuple [.str "winsorized", .int 3])) (V t) x7 x8 x9 (V (.tuple [.str "winsorized", .int 0])))) [.orc (Orc.tl (Orc.tl (Orc.upd (Orc.upd o 1 11 4) 0 11 7))), .scr []]) ∧ (Fb t (S6 x5 x6 x7 x8 x9 x10) [.orc (Orc.upd (Orc.upd o 1 11 5) 0 11 7), .scr []] = .ok (.nxt (S6 (V (.tuple [.str "winsorized", .int 3])) (V t) x7 x8 x9 (V (.tuple [.str "winsorized", .int 1])))) [.orc (Orc.tl (Orc.tl (Orc.upd (Orc.upd o 1 11 5) 0 11 7))), .scr []]) ∧ (Fb t (S6 x5 x6 x7 x8 x9 x10) [.orc (Orc.upd (Orc.upd o 1 11 6) 0 11 7), .scr []] = .ok (.nxt (S6 (V (.tuple [.str "winsorized", .int 3])) (V t) x7 x8 x9 (V (.tuple [.str "winsorized", .int 2])))) [.orc (Orc.tl (Orc.tl (Orc.upd (Orc.upd o 1 11 6) 0 11 7))), .scr []]) ∧ (Fb t (S6 x5 x6 x7 x8 x9 x10) [.orc (Orc.upd (Orc.upd o 1 11 7) 0 11 7), .scr []] = .ok (.nxt (S6 (V (.tuple [.str "winsorized", .int 3])) (V t) x7 x8 x9 (V (.tuple [.str "winsorized", .int 3])))) [.orc (Orc.tl (Orc.tl (Orc.upd (Orc.upd o 1 11 7) 0 11 7))), .scr []]) ∧ (Fb t (S6 x5 x6 x7 x8 x9 x10) [.orc (Orc.upd (Orc.upd o 1 11 8) 0 11 7), .scr []] = .ok (.nxt (S6 (V (.tuple [.str "winsorized", .int 3])) (V t) x7 x8 x9 (V (.tuple [.str "pairs", .int 0])))) [.orc (Orc.tl (Orc.tl (Orc.upd (Orc.upd o 1 11 8) 0 11 7))), .scr []]) ∧ (Fb t (S6 x5 x6 x7 x8 x9 x10) [.orc (Orc.upd (Orc.upd o 1 11 9) 0 11 7), .scr []] = .ok (.nxt (S6 (V (.tuple [.str "winsorized", .int 3])) (V t) x7 x8 x9 (V (.tuple [.str "groups", .int 1])))) [.orc (Orc.tl (Orc.tl (Orc.upd (Orc.upd o 1 11 9) 0 11 7))), .scr []]) ∧ (Fb t (S6 x5 x6 x7 x8 x9 x10) [.orc (Orc.upd (Orc.upd o 1 11 10) 0 11 7), .scr []] = .ok (.nxt (S6 (V (.tuple [.str "winsorized", .int 3])) (V t) x7 x8 x9 (V (.tuple [.str "groups", .int 7])))) [.orc (Orc.tl (Orc.tl (Orc.upd (Orc.upd o 1 11 10) 0 11 7))), .scr []]) := ⟨by kernel_rfl, by kernel_rfl, by kernel_rfl, by kernel_rfl, by kernel_rfl, by kernel_rfl, by kernel_rfl, by kernel_rfl, by kernel_rfl, by kernel_rfl, by kernel_rfl⟩
theorem pr6_8 (t : D) (x5 x6 x7 x8 x9 x10 : Option RV) (o : Orc) : (Fb t (S6 x5 x6 x7 x8 x9 x10) [.orc (Orc.upd (Orc.upd o 1 11 0) 0 11 8), .scr []] = .ok (.nxt (S6 (V (.tuple [.str "pairs", .int 0])) (V t) x7 x8 x9 (V (.tuple [.str "trimmed", .int 0])))) [.orc (Orc.tl (Orc.tl (Orc.upd (Orc.upd o 1 11 0) 0 11 8))), .scr []]) ∧ (Fb t (S6 x5 x6 x7 x8 x9 x10) [.orc (Orc.upd (Orc.upd o 1 11 1) 0 11 8), .scr []] = .ok (.nxt (S6 (V (.tuple [.str "pairs", .int 0])) (V t) x7 x8 x9 (V (.tuple [.str "trimmed", .int 1])))) [.orc (Orc.tl (Orc.tl (Orc.upd (Orc.upd o 1 11 1) 0 11 8))), .scr []]) ∧ (Fb t (S6 x5 x6 x7 x8 x9 x10) [.orc (Orc.upd (Orc.upd o 1 11 2) 0 11 8), .scr []] = .ok (.nxt (S6 (V (.tuple [.str "pairs", .int 0])) (V t) x7 x8 x9 (V (.tuple [.str "trimmed", .int 2])))) [.orc (Orc.tl (Orc.tl (Orc.upd (Orc.upd o 1 11 2) 0 11 8))), .scr []]) ∧ (Fb t (S6 x5 x6 x7 x8 x9 x10) [.orc (Orc.upd (Orc.upd o 1 11 3) 0 11 8), .scr []] = .ok (.nxt (S6 (V (.tuple [.str "pairs", .int 0])) (V t) x7 x8 x9 (V (.tuple [.str "trimmed", .int 3])))) [.orc (Orc.tl (Orc.tl (Orc.upd (Orc.upd o 1 11 3) 0 11 8))), .scr []]) ∧ (Fb t (S6 x5 x6 x7 x8 x9 x10) [.orc (Orc.upd (Orc.upd o 1 11 4) 0 11 8), .scr []] = .ok (.nxt (S6 (V (.tuple [.str "pairs", .int 0])) (V t) x7 x8 x9 (V (.tuple [.str "winsorized", .int 0])))) [.orc (Orc.tl (Orc.tl (Orc.upd (Orc.upd o 1 11 4) 0 11 8))), .scr []]) ∧ (Fb t (S6 x5 x6 x7 x8 x9 x10) [.orc (Orc.upd (Orc.upd o 1 11 5) 0 11 8), .scr []] = .ok (.nxt (S6 (V (.tuple [.str "pairs", .int 0])) (V t) x7 x8 x9 (V (.tuple [.str "winsorized", .int 1])))) [.orc (Orc.tl (Orc.tl (Orc.upd (Orc.upd o 1 11 5) 0 11 8))), .scr []]) ∧ (Fb t (S6 x5 x6 x7 x8 x9 x10) [.orc (Orc.upd (Orc.upd o 1 11 6) 0 11 8), .scr []] = .ok (.nxt (S6 (V (.tuple [.str "pairs", .int 0])) (V t) x7 x8 x9 (V (.tuple [.str "winsorized", .int 2])))) [.orc (Orc.tl (Orc.tl (Orc.upd (Orc.upd o 1 11 6) 0 11 8))), .scr []]) ∧ (Fb t (S6 x5 x6 x7 x8 x9 x10) [.orc (Orc.upd (Orc.upd o 1 11 7) 0 11 8), .scr []] = .ok (.nxt (S6 (V (.tuple [.str "pairs", .int 0])) (V t) x7 x8 x9 (V (.tuple [.str "winsorized", .int 3])))) [.orc (Orc.tl (Orc.tl (Orc.upd (Orc.upd o 1 11 7) 0 11 8))), .scr []]) ∧ (Fb t (S6 x5 x6 x7 x8 x9 x10) [.orc (Orc.upd (Orc.upd o 1 11 8) 0 11 8), .scr []] = .ok (.nxt (S6 (V (.tuple [.str "pairs", .int 0])) (V t) x7 x8 x9 (V (.tuple [.str "pairs", .int 0])))) [.orc (Orc.tl (Orc.tl (Orc.upd (Orc.upd o 1 11 8) 0 11 8))), .scr []]) ∧ (Fb t (S6 x5 x6 x7 x8 x9 x10) [.orc (Orc.upd (Orc.upd o 1 11 9) 0 11 8), .scr []] = .ok (.nxt (S6 (V (.tuple [.str "pairs", .int 0])) (V t) x7 x8 x9 (V (.tuple [.str "groups", .int 1])))) [.orc (Orc.tl (Orc.tl (Orc.upd (Orc.upd o 1 11 9) 0 11 8))), .scr []]) ∧ (Fb t (S6 x5 x6 x7 x8 x9 x10) [.orc (Orc.upd (Orc.upd o 1 11 10) 0 11 8), .scr []] = .ok (.nxt (S6 (V (.tuple [.str "pairs", .int 0])) (V t) x7 x8 x9 (V (.tuple [.str "groups", .int 7])))) [.orc (Orc.tl (Orc.tl (Orc.upd (Orc.upd o 1 11 10) 0 11 8))), .scr []]) := ⟨by kernel_rfl, by kernel_rfl, by kernel_rfl, by kernel_rfl, by kernel_rfl, by kernel_rfl, by kernel_rfl, by kernel_rfl, by kernel_rfl, by kernel_rfl, by kernel_rfl⟩
theorem pr6_9 (t : D) (x5 x6 x7 x8 x9 x10 : Option RV) (o : Orc) : (Fb t (S6 x5 x6 x7 x8 x9 x10) [.orc (Orc.upd (Orc.upd o 1 11 0) 0 11 9), .scr []] = .ok (.nxt (S6 (V (.tuple [.str "groups", .int 1])) (V t) x7 x8 x9 (V (.tuple [.str "trimmed", .int 0])))) [.orc (Orc.tl (Orc.tl (Orc.upd (Orc.upd o 1 11 0) 0 11 9))), .scr []]) ∧ (Fb t (S6 x5 x6 x7 x8 x9 x10) [.orc (Orc.upd (Orc.upd o 1 11 1) 0 11 9), .scr []] = .ok (.nxt (S6 (V (.tuple [.str "groups", .int 1])) (V t) x7 x8 x9 (V (.tuple [.str "trimmed", .int 1])))) [.orc (Orc.tl (Orc.tl (Orc.upd (Orc.upd o 1 11 1) 0 11 9))), .scr []]) ∧ (Fb t (S6 x5 x6 x7 x8 x9 x10) [.orc (Orc.upd (Orc.upd o 1 11 2) 0 11 9), .scr []] = .ok (.nxt (S6 (V (.tuple [.str "groups", .int 1])) (V t) x7 x8 x9 (V (.tuple [.str "trimmed", .int 2])))) [.orc (Orc.tl (Orc.tl (Orc.upd (Orc.upd o 1 11 2) 0 11 9))), .scr []]) ∧ (Fb t (S6 x5 x6 x7 x8 x9 x10) [.orc (Orc.upd (Orc.upd o 1 11 3) 0 11 9), .scr []] = .ok (.nxt (S6 (V (.tuple [.str "groups", .int 1])) (V t) x7 x8 x9 (V (.tuple [.str "trimmed", .int 3])))) [.orc (Orc.tl (Orc.tl (Orc.upd (Orc.upd o 1 11 3) 0 11 9))), .scr []]) ∧ (Fb t (S6 x5 x6 x7 x8 x9 x10) [.orc (Orc.upd (Orc.upd o 1 11 4) 0 11 9), .scr []] = .ok (.nxt (S6 (V (.tuple [.str "groups", .int 1])) (V t) x7 x8 x9 (V (.tuple [.str "winsorized", .int 0])))) [.orc (Orc.tl (Orc.tl (Orc.upd (Orc.upd o 1 11 4) 0 11 9))), .scr []]) ∧ (Fb t (S6 x5 x6 x7 x8 x9 x10) [.orc (Orc.upd (Orc.upd o 1 11 5) 0 11 9), .scr []] = .ok (.nxt (S6 (V (.tuple [.str "groups", .int 1])) (V t) x7 x8 x9 (V (.tuple [.str "winsorized", .int 1])))) [.orc (Orc.tl (Orc.tl (Orc.upd (Orc.upd o 1 11 5) 0 11 9))), .scr []]) ∧ (Fb t (S6 x5 x6 x7 x8 x9 x10) [.orc (Orc.upd (Orc.upd o 1 11 6) 0 11 9), .scr []] = .ok (.nxt (S6 (V (.tuple [.str "groups", .int 1])) (V t) x7 x8 x9 (V (.tuple [.str "winsorized", .int 2])))) [.orc (Orc.tl (Orc.tl (Orc.upd (Orc.upd o 1 11 6) 0 11 9))), .scr []]) ∧ (Fb t (S6 x5 x6 x7 x8 x9 x10) [.orc (Orc.upd (Orc.upd o 1 11 7) 0 11 9), .scr []] = .ok (.nxt (S6 (V (.tuple [.str "groups", .int 1])) (V t) x7 x8 x9 (V (.tuple [.str "winsorized", .int 3])))) [.orc (Orc.tl (Orc.tl (Orc.upd (Orc.upd o 1 11 7) 0 11 9))), .scr []]) ∧ (Fb t (S6 x5 x6 x7 x8 x9 x10) [.orc (Orc.upd (Orc.upd o 1 11 8) 0 11 9), .scr []] = .ok (.nxt (S6 (V (.tuple [.str "groups", .int 1])) (V t) x7 x8 x9 (V (.tuple [.str "pairs", .int 0])))) [.orc (Orc.tl (Orc.tl (Orc.upd (Orc.upd o 1 11 8) 0 11 9))), .scr []]) ∧ (Fb t (S6 x5 x6 x7 x8 x9 x10) [.orc (Orc.upd (Orc.upd o 1 11 9) 0 11 9), .scr []] = .ok (.nxt (S6 (V (.tuple [.str "groups", .int 1])) (V t) x7 x8 x9 (V (.tuple [.str "groups", .int 1])))) [.orc (Orc.tl (Orc.tl (Orc.upd (Orc.upd o 1 11 9) 0 11 9))), .scr []]) ∧ (Fb t (S6 x5 x6 x7 x8 x9 x10) [.orc (Orc.upd (Orc.upd o 1 11 10) 0 11 9), .scr []] = .ok (.nxt (S6 (V (.tuple [.str "groups", .int 1])) (V t) x7 x8 x9 (V (.tuple [.str "groups", .int 7])))) [.orc (Orc.tl (Orc.tl (Orc.upd (Orc.upd o 1 11 10) 0 11 9))), .scr []]) := ⟨by kernel_rfl, by kernel_rfl, by kernel_rfl, by kernel_rfl, by kernel_rfl, by kernel_rfl, by kernel_rfl, by kernel_rfl, by kernel_rfl, by kernel_rfl, by kernel_rfl⟩
theorem pr6_10 (t : D) (x5 x6 x7 x8 x9 x10 : Option RV) (o : Orc) : (Fb t (S6 x5 x6 x7 x8 x9 x10) [.orc (Orc.upd (Orc.upd o 1 11 0) 0 11 10), .scr []] = .ok (.nxt (S6 (V (.tuple [.str "groups", .int 7])) (V t) x7 x8 x9 (V (.tuple [.str "trimmed", .int 0])))) [.orc (Orc.tl (Orc.tl (Orc.upd (Orc.upd o 1 11 0) 0 11 10))), .scr []]) ∧ (Fb t (S6 x5 x6 x7 x8 x9 x10) [.orc (Orc.upd (Orc.upd o 1 11 1) 0 11 10), .scr []] = .ok (.nxt (S6 (V (.tuple [.str "groups", .int 7])) (V t) x7 x8 x9 (V (.tuple [.str "trimmed", .int 1])))) [.orc (Orc.tl (Orc.tl (Orc.upd (Orc.upd o 1 11 1) 0 11 10))), .scr []]) ∧ (Fb t (S6 x5 x6 x7 x8 x9 x10) [.orc (Orc.upd (Orc.upd o 1 11 2) 0 11 10), .scr []] = .ok (.nxt (S6 (V (.tuple [.str "groups", .int 7])) (V t) x7 x8 x9 (V (.tuple [.str "trimmed", .int 2])))) [.orc (Orc.tl (Orc.tl (Orc.upd (Orc.upd o 1 11 2) 0 11 10))), .scr []]) ∧ (Fb t (S6 x5 x6 x7 x8 x9 x10) [.orc (Orc.upd (Orc.upd o 1 11 3) 0 11 10), .scr []] = .ok (.nxt (S6 (V (.tuple [.str "groups", .int 7])) (V t) x7 x8 x9 (V (.tuple [.str "trimmed", .int 3])))) [.orc (Orc.tl (Orc.tl (Orc.upd (Orc.upd o 1 11 3) 0 11 10))), .scr []]) ∧ (Fb t (S6 x5 x6 x7 x8 x9 x10) [.orc (Orc.upd (Orc.upd o 1 11 4) 0 11 10), .scr []] = .ok (.nxt (S6 (V (.tuple [.str "groups", .int 7])) (V t) x7 x8 x9 (V (.tuple [.str "winsorized", .int 0])))) [.orc (Orc.tl (Orc.tl (Orc.upd (Orc.upd o 1 11 4) 0 11 10))), .scr []]) ∧ (Fb t (S6 x5 x6 x7 x8 x9 x10) [.orc (Orc.upd (Orc.upd o 1 11 5) 0 11 10), .scr []] = .ok (.nxt (S6 (V (.tuple [.str "groups", .int 7])) (V t) x7 x8 x9 (V (.tuple [.str "winsorized", .int 1])))) [.orc (Orc.tl (Orc.tl (Orc.upd (Orc.upd o 1 11 5) 0 11 10))), .scr []]) ∧ (Fb t (S6 x5 x6 x7 x8 x9 x10) [.orc (Orc.upd (Orc.upd o 1 11 6) 0 11 10), .scr []] = .ok (.nxt (S6 (V (.tuple [.str "groups", .int 7])) (V t) x7 x8 x9 (V (.tuple [.str "winsorized", .int 2])))) [.orc (Orc.tl (Orc.tl (Orc.upd (Orc.upd o 1 11 6) 0 11 10))), .scr []]) ∧ (Fb t (S6 x5 x6 x7 x8 x9 x10) [.orc (Orc.upd (Orc.upd o 1 11 7) 0 11 10), .scr []] = .ok (.nxt (S6 (V (.tuple [.str "groups", .int 7])) (V t) x7 x8 x9 (V (.tuple [.str "winsorized", .int 3])))) [.orc (Orc.tl (Orc.tl (Orc.upd (Orc.upd o 1 11 7) 0 11 10))), .scr []]) ∧ (Fb t (S6 x5 x6 x7 x8 x9 x10) [.orc (Orc.upd (Orc.upd o 1 11 8) 0 11 10), .scr []] = .ok (.nxt (S6 (V (.tuple [.str "groups", .int 7])) (V t) x7 x8 x9 (V (.tuple [.str "pairs", .int 0])))) [.orc (Orc.tl (Orc.tl (Orc.upd (Orc.upd o 1 11 8) 0 11 10))), .scr []]) ∧ (Fb t (S6 x5 x6 x7 x8 x9 x10) [.orc (Orc.upd (Orc.upd o 1 11 9) 0 11 10), .scr []] = .ok (.nxt (S6 (V (.tuple [.str "groups", .int 7])) (V t) x7 x8 x9 (V (.tuple [.str "groups", .int 1])))) [.orc (Orc.tl (Orc.tl (Orc.upd (Orc.upd o 1 11 9) 0 11 10))), .scr []]) ∧ (Fb t (S6 x5 x6 x7 x8 x9 x10) [.orc (Orc.upd (Orc.upd o 1 11 10) 0 11 10), .scr []] = .ok (.nxt (S6 (V (.tuple [.str "groups", .int 7])) (V t) x7 x8 x9 (V (.tuple [.str "groups", .int 7])))) [.orc (Orc.tl (Orc.tl (Orc.upd (Orc.upd o 1 11 10) 0 11 10))), .scr []]) := ⟨by kernel_rfl, by kernel_rfl, by kernel_rfl, by kernel_rfl, by kernel_rfl, by kernel_rfl, by kernel_rfl, by kernel_rfl, by kernel_rfl, by kernel_rfl, by kernel_rfl⟩
theorem pr6 (t : D) (x5 x6 x7 x8 x9 x10 : Option RV) (o : Orc) (ho : OkO o) : ∃ y5 y10, Fb t (S6 x5 x6 x7 x8 x9 x10) [.orc o, .scr []] = .ok (.nxt (S6 y5 (V t) x7 x8 x9 y10)) [.orc (Orc.tl (Orc.tl o)), .scr []] := by
  have h0 := ho 0 11 (by decide)
  have h1 := ho 1 11 (by decide)
  have e := Orc.upd_self o 1 11
  have e2 := Orc.upd_self o 0 11
  generalize o 0 11 = a at h0 e2
  generalize o 1 11 = b at h1 e
  have ea : a = 0 ∨ a = 1 ∨ a = 2 ∨ a = 3 ∨ a = 4 ∨ a = 5 ∨ a = 6 ∨ a = 7 ∨ a = 8 ∨ a = 9 ∨ a = 10 := by omega
  have eb : b = 0 ∨ b = 1 ∨ b = 2 ∨ b = 3 ∨ b = 4 ∨ b = 5 ∨ b = 6 ∨ b = 7 ∨ b = 8 ∨ b = 9 ∨ b = 10 := by omega
  rcases ea with rfl | rfl | rfl | rfl | rfl | rfl | rfl | rfl | rfl | rfl | rfl
  · obtain ⟨k0, k1, k2, k3, k4, k5, k6, k7, k8, k9, k10⟩ := pr6_0 t x5 x6 x7 x8 x9 x10 o
    rcases eb with rfl | rfl | rfl | rfl | rfl | rfl | rfl | rfl | rfl | rfl | rfl
    · rw [e, e2] at k0; exact ⟨_, _, k0⟩
    · rw [e, e2] at k1; exact ⟨_, _, k1⟩
    · rw [e, e2] at k2; exact ⟨_, _, k2⟩
    · rw [e, e2] at k3; exact ⟨_, _, k3⟩
    · rw [e, e2] at k4; exact ⟨_, _, k4⟩
    · rw [e, e2] at k5; exact ⟨_, _, k5⟩
    · rw [e, e2] at k6; exact ⟨_, _, k6⟩
    · rw [e, e2] at k7; exact ⟨_, _, k7⟩
    · rw [e, e2] at k8; exact ⟨_, _, k8⟩
    · rw [e, e2] at k9; exact ⟨_, _, k9⟩
    · rw [e, e2] at k10; exact ⟨_, _, k10⟩
  · obtain ⟨k0, k1, k2, k3, k4, k5, k6, k7, k8, k9, k10⟩ := pr6_1 t x5 x6 x7 x8 x9 x10 o
    rcases eb with rfl | rfl | rfl | rfl | rfl | rfl | rfl | rfl | rfl | rfl | rfl
    · rw [e, e2] at k0; exact ⟨_, _, k0⟩
    · rw [e, e2] at k1; exact ⟨_, _, k1⟩
    · rw [e, e2] at k2; exact ⟨_, _, k2⟩
    · rw [e, e2] at k3; exact ⟨_, _, k3⟩
    · rw [e, e2] at k4; exact ⟨_, _, k4⟩
    · rw [e, e2] at k5; exact ⟨_, _, k5⟩
    · rw [e, e2] at k6; exact ⟨_, _, k6⟩
    · rw [e, e2] at k7; exact ⟨_, _, k7⟩
    · rw [e, e2] at k8; exact ⟨_, _, k8⟩
    · rw [e, e2] at k9; exact ⟨_, _, k9⟩
    · rw [e, e2] at k10; exact ⟨_, _, k10⟩
  · obtain ⟨k0, k1, k2, k3, k4, k5, k6, k7, k8, k9, k10⟩ := pr6_2 t x5 x6 x7 x8 x9 x10 o
    rcases eb with rfl | rfl | rfl | rfl | rfl | rfl | rfl | rfl | rfl | rfl | rfl
    · rw [e, e2] at k0; exact ⟨_, _, k0⟩
    · rw [e, e2] at k1; exact ⟨_, _, k1⟩
    · rw [e, e2] at k2; exact ⟨_, _, k2⟩
    · rw [e, e2] at k3; exact ⟨_, _, k3⟩
    · rw [e, e2] at k4; exact ⟨_, _, k4⟩
    · rw [e, e2] at k5; exact ⟨_, _, k5⟩
    · rw [e, e2] at k6; exact ⟨_, _, k6⟩
    · rw [e, e2] at k7; exact ⟨_, _, k7⟩
    · rw [e, e2] at k8; exact ⟨_, _, k8⟩
    · rw [e, e2] at k9; exact ⟨_, _, k9⟩
    · rw [e, e2] at k10; exact ⟨_, _, k10⟩
  · obtain ⟨k0, k1, k2, k3, k4, k5, k6, k7, k8, k9, k10⟩ := pr6_3 t x5 x6 x7 x8 x9 x10 o
    rcases eb with rfl | rfl | rfl | rfl | rfl | rfl | rfl | rfl | rfl | rfl | rfl
    · rw [e, e2] at k0; exact ⟨_, _, k0⟩
    · rw [e, e2] at k1; exact ⟨_, _, k1⟩
    · rw [e, e2] at k2; exact ⟨_, _, k2⟩
    · rw [e, e2] at k3; exact ⟨_, _, k3⟩
    · rw [e, e2] at k4; exact ⟨_, _, k4⟩
    · rw [e, e2] at k5; exact ⟨_, _, k5⟩
    · rw [e, e2] at k6; exact ⟨_, _, k6⟩
    · rw [e, e2] at k7; exact ⟨_, _, k7⟩
    · rw [e, e2] at k8; exact ⟨_, _, k8⟩
    · rw [e, e2] at k9; exact ⟨_, _, k9⟩
    · rw [e, e2] at k10; exact ⟨_, _, k10⟩
  · obtain ⟨k0, k1, k2, k3, k4, k5, k6, k7, k8, k9, k10⟩ := pr6_4 t x5 x6 x7 x8 x9 x10 o
    rcases eb with rfl | rfl | rfl | rfl | rfl | rfl | rfl | rfl | rfl | rfl | rfl
    · rw [e, e2] at k0; exact ⟨_, _, k0⟩
    · rw [e, e2] at k1; exact ⟨_, _, k1⟩
    · rw [e, e2] at k2; exact ⟨_, _, k2⟩
    · rw [e, e2] at k3; exact ⟨_, _, k3⟩
    · rw [e, e2] at k4; exact ⟨_, _, k4⟩
    · rw [e, e2] at k5; exact ⟨_, _, k5⟩
    · rw [e, e2] at k6; exact ⟨_, _, k6⟩
    · rw [e, e2] at k7; exact ⟨_, _, k7⟩
    · rw [e, e2] at k8; exact ⟨_, _, k8⟩
    · rw [e, e2] at k9; exact ⟨_, _, k9⟩
    · rw [e, e2] at k10; exact ⟨_, _, k10⟩
  · obtain ⟨k0, k1, k2, k3, k4, k5, k6, k7, k8, k9, k10⟩ := pr6_5 t x5 x6 x7 x8 x9 x10 o
    rcases eb with rfl | rfl | rfl | rfl | rfl | rfl | rfl | rfl | rfl | rfl | rfl
    · rw [e, e2] at k0; exact ⟨_, _, k0⟩
    · rw [e, e2] at k1; exact ⟨_, _, k1⟩
    · rw [e, e2] at k2; exact ⟨_, _, k2⟩
    · rw [e, e2] at k3; exact ⟨_, _, k3⟩
    · rw [e, e2] at k4; exact ⟨_, _, k4⟩
    · rw [e, e2] at k5; exact ⟨_, _, k5⟩
    · rw [e, e2] at k6; exact ⟨_, _, k6⟩
    · rw [e, e2] at k7; exact ⟨_, _, k7⟩
    · rw [e, e2] at k8; exact ⟨_, _, k8⟩
    · rw [e, e2] at k9; exact ⟨_, _, k9⟩
    · rw [e, e2] at k10; exact ⟨_, _, k10⟩
  · obtain ⟨k0, k1, k2, k3, k4, k5, k6, k7, k8, k9, k10⟩ := pr6_6 t x5 x6 x7 x8 x9 x10 o
    rcases eb with rfl | rfl | rfl | rfl | rfl | rfl | rfl | rfl | rfl | rfl | rfl
    · rw [e, e2] at k0; exact ⟨_, _, k0⟩
    · rw [e, e2] at k1; exact ⟨_, _, k1⟩
    · rw [e, e2] at k2; exact ⟨_, _, k2⟩
    · rw [e, e2] at k3; exact ⟨_, _, k3⟩
    · rw [e, e2] at k4; exact ⟨_, _, k4⟩
    · rw [e, e2] at k5; exact ⟨_, _, k5⟩
    · rw [e, e2] at k6; exact ⟨_, _, k6⟩
    · rw [e, e2] at k7; exact ⟨_, _, k7⟩
    · rw [e, e2] at k8; exact ⟨_, _, k8⟩
    · rw [e, e2] at k9; exact ⟨_, _, k9⟩
    · rw [e, e2] at k10; exact ⟨_, _, k10⟩
  · obtain ⟨k0, k1, k2, k3, k4, k5, k6, k7, k8, k9, k10⟩ := pr6_7 t x5 x6 x7 x8 x9 x10 o
    rcases eb with rfl | rfl | rfl | rfl | rfl | rfl | rfl | rfl | rfl | rfl | rfl
    · rw [e, e2] at k0; exact ⟨_, _, k0⟩
    · rw [e, e2] at k1; exact ⟨_, _, k1⟩
    · rw [e, e2] at k2; exact ⟨_, _, k2⟩
    · rw [e, e2] at k3; exact ⟨_, _, k3⟩
    · rw [e, e2] at k4; exact ⟨_, _, k4⟩
    · rw [e, e2] at k5; exact ⟨_, _, k5⟩
    · rw [e, e2] at k6; exact ⟨_, _, k6⟩
    · rw [e, e2] at k7; exact ⟨_, _, k7⟩
    · rw [e, e2] at k8; exact ⟨_, _, k8⟩
    · rw [e, e2] at k9; exact ⟨_, _, k9⟩
    · rw [e, e2] at k10; exact ⟨_, _, k10⟩
  · obtain ⟨k0, k1, k2, k3, k4, k5, k6, k7, k8, k9, k10⟩ := pr6_8 t x5 x6 x7 x8 x9 x10 o
    rcases eb with rfl | rfl | rfl | rfl | rfl | rfl | rfl | rfl | rfl | rfl | rfl
    · rw [e, e2] at k0; exact ⟨_, _, k0⟩
    · rw [e, e2] at k1; exact ⟨_, _, k1⟩
    · rw [e, e2] at k2; exact ⟨_, _, k2⟩
    · rw [e, e2] at k3; exact ⟨_, _, k3⟩
    · rw [e, e2] at k4; exact ⟨_, _, k4⟩
    · rw [e, e2] at k5; exact ⟨_, _, k5⟩
    · rw [e, e2] at k6; exact ⟨_, _, k6⟩
    · rw [e, e2] at k7; exact ⟨_, _, k7⟩
    · rw [e, e2] at k8; exact ⟨_, _, k8⟩
    · rw [e, e2] at k9; exact ⟨_, _, k9⟩
    · rw [e, e2] at k10; exact ⟨_, _, k10⟩
  · obtain ⟨k0, k1, k2, k3, k4, k5, k6, k7, k8, k9, k10⟩ := pr6_9 t x5 x6 x7 x8 x9 x10 o
    rcases eb with rfl | rfl | rfl | rfl | rfl | rfl | rfl | rfl | rfl | rfl | rfl
    · rw [e, e2] at k0; exact ⟨_, _, k0⟩
    · rw [e, e2] at k1; exact ⟨_, _, k1⟩
    · rw [e, e2] at k2; exact ⟨_, _, k2⟩
    · rw [e, e2] at k3; exact ⟨_, _, k3⟩
    · rw [e, e2] at k4; exact ⟨_, _, k4⟩
    · rw [e, e2] at k5; exact ⟨_, _, k5⟩
    · rw [e, e2] at k6; exact ⟨_, _, k6⟩
    · rw [e, e2] at k7; exact ⟨_, _, k7⟩
    · rw [e, e2] at k8; exact ⟨_, _, k8⟩
    · rw [e, e2] at k9; exact ⟨_, _, k9⟩
    · rw [e, e2] at k10; exact ⟨_, _, k10⟩
  · obtain ⟨k0, k1, k2, k3, k4, k5, k6, k7, k8, k9, k10⟩ := pr6_10 t x5 x6 x7 x8 x9 x10 o
    rcases eb with rfl | rfl | rfl | rfl | rfl | rfl | rfl | rfl | rfl | rfl | rfl
    · rw [e, e2] at k0; exact ⟨_, _, k0⟩
    · rw [e, e2] at k1; exact ⟨_, _, k1⟩
    · rw [e, e2] at k2; exact ⟨_, _, k2⟩
    · rw [e, e2] at k3; exact ⟨_, _, k3⟩
    · rw [e, e2] at k4; exact ⟨_, _, k4⟩
    · rw [e, e2] at k5; exact ⟨_, _, k5⟩
    · rw [e, e2] at k6; exact ⟨_, _, k6⟩
    · rw [e, e2] at k7; exact ⟨_, _, k7⟩
    · rw [e, e2] at k8; exact ⟨_, _, k8⟩
    · rw [e, e2] at k9; exact ⟨_, _, k9⟩
    · rw [e, e2] at k10; exact ⟨_, _, k10⟩
theorem sfs6 (x5 x6 x9 x10 : Option RV) (o : Orc) : (execs (ex exF G) (B.drop 9) (S6 x5 x6 none none x9 x10) [.orc (Orc.upd o 0 8 0), .scr []] = .ok (.ret (.val (.bool true))) [.orc (Orc.tl (Orc.upd o 0 8 0)), .scr []]) ∧ (execs (ex exF G) (B.drop 9) (S6 x5 x6 none none x9 x10) [.orc (Orc.upd o 0 8 1), .scr []] = .ok (.ret (.val (.bool true))) [.orc (Orc.tl (Orc.upd o 0 8 1)), .scr []]) ∧ (execs (ex exF G) (B.drop 9) (S6 x5 x6 none none x9 x10) [.orc (Orc.upd o 0 8 2), .scr []] = .ok (.ret (.val (.bool true))) [.orc (Orc.tl (Orc.upd o 0 8 2)), .scr []]) ∧ (execs (ex exF G) (B.drop 9) (S6 x5 x6 none none x9 x10) [.orc (Orc.upd o 0 8 3), .scr []] = .ok (.ret (.val (.bool true))) [.orc (Orc.tl (Orc.upd o 0 8 3)), .scr []]) ∧ (execs (ex exF G) (B.drop 9) (S6 x5 x6 none none x9 x10) [.orc (Orc.upd o 0 8 4), .scr []] = .ok (.ret (.val (.bool true))) [.orc (Orc.tl (Orc.upd o 0 8 4)), .scr []]) ∧ (execs (ex exF G) (B.drop 9) (S6 x5 x6 none none x9 x10) [.orc (Orc.upd o 0 8 5), .scr []] = .ok (.ret (.val (.bool true))) [.orc (Orc.tl (Orc.upd o 0 8 5)), .scr []]) ∧ (execs (ex exF G) (B.drop 9) (S6 x5 x6 none none x9 x10) [.orc (Orc.upd o 0 8 6), .scr []] = .ok (.ret (.val (.bool true))) [.orc (Orc.tl (Orc.upd o 0 8 6)), .scr []]) ∧ (execs (ex exF G) (B.drop 9) (S6 x5 x6 none none x9 x10) [.orc (Orc.upd o 0 8 7), .scr []] = .ok (.ret (.val (.bool true))) [.orc (Orc.tl (Orc.upd o 0 8 7)), .scr []]) := ⟨by kernel_rfl, by kernel_rfl, by kernel_rfl, by kernel_rfl, by kernel_rfl, by kernel_rfl, by kernel_rfl, by kernel_rfl⟩
theorem sf6 (x5 x6 x9 x10 : Option RV) (o : Orc) (ho : OkO o) : execs (ex exF G) (B.drop 9) (S6 x5 x6 none none x9 x10) [.orc o, .scr []] = .ok (.ret (.val (.bool true))) [.orc (Orc.tl o), .scr []] := by
  have h0 := ho 0 8 (by decide)
  have e := Orc.upd_self o 0 8
  generalize o 0 8 = a at h0 e
  have ea : a = 0 ∨ a = 1 ∨ a = 2 ∨ a = 3 ∨ a = 4 ∨ a = 5 ∨ a = 6 ∨ a = 7 := by omega
  obtain ⟨k0, k1, k2, k3, k4, k5, k6, k7⟩ := sfs6 x5 x6 x9 x10 o
  rcases ea with rfl | rfl | rfl | rfl | rfl | rfl | rfl | rfl
  · rw [e] at k0; exact k0
  · rw [e] at k1; exact k1
  · rw [e] at k2; exact k2
  · rw [e] at k3; exact k3
  · rw [e] at k4; exact k4
  · rw [e] at k5; exact k5
  · rw [e] at k6; exact k6
  · rw [e] at k7; exact k7
theorem all6 (o : Orc) (ho : OkO o) (h : o 0 9 = 6) : ∃ w', execs (ex exF G) B [V (spc 0), none, none, none, none, none, none, none, none, none, none] [.orc o] = .ok (.ret (.val (.bool true))) w' := by
  have e0 := Orc.upd_self o 0 9
  rw [h] at e0
  have p := pre6 o
  rw [e0] at p
  have eB : B = B.take 8 ++ (st8 :: B.drop 9) := rfl
  obtain ⟨a5, a10, q1⟩ := pr6 (.int 0) (V (.tuple [.str "groups", .int 7])) none none none (V (.int 0)) none (Orc.tl o) (okO_tl ho)
  obtain ⟨b5, b10, q2⟩ := pr6 (.int 1) a5 (V (.int 0)) none none (V (.int 0)) a10 (Orc.tl (Orc.tl (Orc.tl o))) (okO_tl (okO_tl (okO_tl ho)))
  have hl : ex exF G st8 (S6 (V (.tuple [.str "groups", .int 7])) none none none (V (.int 0)) none) [.orc (Orc.tl o), .scr []] = .ok (.nxt (S6 b5 (V (.int 1)) none none (V (.int 0)) b10)) [.orc (Orc.tl (Orc.tl (Orc.tl (Orc.tl (Orc.tl o))))), .scr []] := by
    rw [lp6]
    show (Fb (.int 0) _ _).bind _ = _
    rw [q1]
    show (Fb (.int 1) _ _).bind _ = _
    rw [q2]
    rfl
  have z := sf6 b5 (V (.int 1)) (V (.int 0)) b10 _ (okO_tl (okO_tl (okO_tl (okO_tl (okO_tl ho)))))
  have k := execs_app (b := st8 :: B.drop 9) p
  rw [← eB] at k
  refine ⟨[.orc (Orc.tl (Orc.tl (Orc.tl (Orc.tl (Orc.tl (Orc.tl o)))))), .scr []], k.trans ?_⟩
  show (ex exF G st8 _ _).bind _ = _
  rw [hl]
  exact z
abbrev rs7 : List D := [.tuple [.str "trimmed", .int 0], .tuple [.str "trimmed", .int 1], .tuple [.str "trimmed", .int 2], .tuple [.str "trimmed", .int 3], .tuple [.str "winsorized", .int 0], .tuple [.str "winsorized", .int 1], .tuple [.str "winsorized", .int 2], .tuple [.str "winsorized", .int 3], .tuple [.str "pairs", .int 0], .tuple [.str "groups", .int 1], .tuple [.str "groups", .int 2], .tuple [.str "groups", .int 4], .tuple [.str "groups", .int 8]]
abbrev S7 (x5 x6 x7 x8 x9 x10 : Option RV) : Sl := [V (spc 0), V (spc 1), V (.int 8), V (.list rs7), V (.int 3), x5, x6, x7, x8, x9, x10]
theorem pre7 (o : Orc) : execs (ex exF G) (B.take 8) [V (spc 0), none, none, none, none, none, none, none, none, none, none] [.orc (Orc.upd o 0 9 7)] = .ok (.nxt (S7 (V (.tuple [.str "groups", .int 8])) none none none (V (.int 0)) none)) [.orc (Orc.tl (Orc.upd o 0 9 7)), .scr []] := by kernel_rfl
theorem lp7 (x5 x6 x7 x8 x9 x10 : Option RV) (w : Wd) : ex exF G st8 (S7 x5 x6 x7 x8 x9 x10) w = forL Fb [.int 0, .int 1] (S7 x5 x6 x7 x8 x9 x10) w := by kernel_rfl
theorem pr7_0 (t : D) (x5 x6 x7 x8 x9 x10 : Option RV) (o : Orc) : (Fb t (S7 x5 x6 x7 x8 x9 x10) [.orc (Orc.upd (Orc.upd o 1 13 0) 0 13 0), .scr []] = .ok (.nxt (S7 (V (.tuple [.str "trimmed", .int 0])) (V t) x7 x8 x9 (V (.tuple [.str "trimmed", .int 0])))) [.orc (Orc.tl (Orc.tl (Orc.upd (Orc.upd o 1 13 0) 0 13 0))), .scr []]) ∧ (Fb t (S7 x5 x6 x7 x8 x9 x10) [.orc (Orc.upd (Orc.upd o 1 13 1) 0 13 0), .scr []] = .ok (.nxt (S7 (V (.tuple [.str "trimmed", .int 0])) (V t) x7 x8 x9 (V (.tuple [.str "trimmed", .int 1])))) [.orc (Orc.tl (Orc.tl (Orc.upd (Orc.upd o 1 13 1) 0 13 0))), .scr []]) ∧ (Fb t (S7 x5 x6 x7 x8 x9 x10) [.orc (Orc.upd (Orc.upd o 1 13 2) 0 13 0), .scr []] = .ok (.nxt (S7 (V (.tuple [.str "trimmed", .int 0])) (V t) x7 x8 x9 (V (.tuple [.str "trimmed", .int 2])))) [.orc (Orc.tl (Orc.tl (Orc.upd (Orc.upd o 1 13 2) 0 13 0))), .scr []]) ∧ (Fb t (S7 x5 x6 x7 x8 x9 x10) [.orc (Orc.upd (Orc.upd o 1 13 3) 0 13 0), .scr []] = .ok (.nxt (S7 (V (.tuple [.str "trimmed", .int 0])) (V t) x7 x8 x9 (V (.tuple [.str "trimmed", .int 3])))) [.orc (Orc.tl (Orc.tl (Orc.upd (Orc.upd o 1 13 3) 0 13 0))), .scr []]) ∧ (Fb t (S7 x5 x6 x7 x8 x9 x10) [.orc (Orc.upd (Orc.upd o 1 13 4) 0 13 0), .scr []] = .ok (.nxt (S7 (V (.tuple [.str "trimmed", .int 0])) (V t) x7 x8 x9 (V (.tuple [.str "winsorized", .int 0])))) [.orc (Orc.tl (Orc.tl (Orc.upd (Orc.upd o 1 13 4) 0 13 0))), .scr []]) ∧ (Fb t (S7 x5 x6 x7 x8 x9 x10) [.orc (Orc.upd (Orc.upd o 1 13 5) 0 13 0), .scr []] = .ok (.nxt (S7 (V (.tuple [.str "trimmed", .int 0])) (V t) x7 x8 x9 (V (.tuple [.str "winsorized", .int 1])))) [.orc (Orc.tl (Orc.tl (Orc.upd (Orc.upd o 1 13 5) 0 13 0))), .scr []]) ∧ (Fb t (S7 x5 x6 x7 x8 x9 x10) [.orc (Orc.upd (Orc.upd o 1 13 6) 0 13 0), .scr []] = .ok (.nxt (S7 (V (.tuple [.str "trimmed", .int 0])) (V t) x7 x8 x9 (V (.tuple [.str "winsorized", .int 2])))) [.orc (Orc.tl (Orc.tl (Orc.upd (Orc.upd o 1 13 6) 0 13 0))), .scr []]) ∧ (Fb t (S7 x5 x6 x7 x8 x9 x10) [.orc (Orc.upd (Orc.upd o 1 13 7) 0 13 0), .scr []] = .ok (.nxt (S7 (V (.tuple [.str "trimmed", .int 0])) (V t) x7 x8 x9 (V (.tuple [.str "winsorized", .int 3])))) [.orc (Orc.tl (Orc.tl (Orc.upd (Orc.upd o 1 13 7) 0 13 0))), .scr []]) ∧ (Fb t (S7 x5 x6 x7 x8 x9 x10) [.orc (Orc.upd (Orc.upd o 1 13 8) 0 13 0), .scr []] = .ok (.nxt (S7 (V (.tuple [.str "trimmed", .int 0])) (V t) x7 x8 x9 (V (.tuple [.str "pairs", .int 0])))) [.orc (Orc.tl (Orc.tl (Orc.upd (Orc.upd o 1 13 8) 0 13 0))), .scr []]) ∧ (Fb t (S7 x5 x6 x7 x8 x9 x10) [.orc (Orc.upd (Orc.upd o 1 13 9) 0 13 0), .scr []] = .ok (.nxt (S7 (V (.tuple [.str "trimmed", .int 0])) (V t) x7 x8 x9 (V (.tuple [.str "groups", .int 1])))) [.orc (Orc.tl (Orc.tl (Orc.upd (Orc.upd o 1 13 9) 0 13 0))), .scr []]) ∧ (Fb t (S7 x5 x6 x7 x8 x9 x10) [.orc (Orc.upd (Orc.upd o 1 13 10) 0 13 0), .scr []] = .ok (.nxt (S7 (V (.tuple [.str "trimmed", .int 0])) (V t) x7 x8 x9 (V (.tuple [.str "groups", .int 2])))) [.orc (Orc.tl (Orc.tl (Orc.upd (Orc.upd o 1 13 10) 0 13 0))), .scr []]) ∧ (Fb t (S7 x5 x6 x7 x8 x9 x10) [.orc (Orc.upd (Orc.upd o 1 13 11) 0 13 0), .scr []] = .ok (.nxt (S7 (V (.tuple [.str "trimmed", .int 0])) (V t) x7 x8 x9 (V (.tuple [.str "groups", .int 4])))) [.orc (Orc.tl (Orc.tl (Orc.upd (Orc.upd o 1 13 11) 0 13 0))), .scr []]) ∧ (Fb t (S7 x5 x6 x7 x8 x9 x10) [.orc (Orc.upd (Orc.upd o 1 13 12) 0 13 0), .scr []] = .ok (.nxt (S7 (V (.tuple [.str "trimmed", .int 0])) (V t) x7 x8 x9 (V (.tuple [.str "groups", .int 8])))) [.orc (Orc.tl (Orc.tl (Orc.upd (Orc.upd o 1 13 12) 0 13 0))), .scr []]) := ⟨by kernel_rfl, by kernel_rfl, by kernel_rfl, by kernel_rfl, by kernel_rfl, by kernel_rfl, by kernel_rfl, by kernel_rfl, by kernel_rfl, by kernel_rfl, by kernel_rfl, by kernel_rfl, by kernel_rfl⟩
theorem pr7_1 (t : D) (x5 x6 x7 x8 x9 x10 : Option RV) (o : Orc) : (Fb t (S7 x5 x6 x7 x8 x9 x10) [.orc (Orc.upd (Orc.upd o 1 13 0) 0 13 1), .scr []] = .ok (.nxt (S7 (V (.tuple [.str "trimmed", .int 1])) (V t) x7 x8 x9 (V (.tuple [.str "trimmed", .int 0])))) [.orc (Orc.tl (Orc.tl (Orc.upd (Orc.upd o 1 13 0) 0 13 1))), .scr []]) ∧ (Fb t (S7 x5 x6 x7 x8 x9 x10) [.orc (Orc.upd (Orc.upd o 1 13 1) 0 13 1), .scr []] = .ok (.nxt (S7 (V (.tuple [.str "trimmed", .int 1])) (V t) x7 x8 x9 (V (.tuple [.str "trimmed", .int 1])))) [.orc (Orc.tl (Orc.tl (Orc.upd (Orc.upd o 1 13 1) 0 13 1))), .scr []]) ∧ (Fb t (S7 x5 x6 x7 x8 x9 x10) [.orc (Orc.upd (Orc.upd o 1 13 2) 0 13 1), .scr []] = .ok (.nxt (S7 (V (.tuple [.str "trimmed", .int 1])) (V t) x7 x8 x9 (V (.tuple [.str "trimmed", .int 2])))) [.orc (Orc.tl (Orc.tl (Orc.upd (Orc.upd o 1 13 2) 0 13 1))), .scr []]) ∧ (Fb t (S7 x5 x6 x7 x8 x9 x10) [.orc (Orc.upd (Orc.upd o 1 13 3) 0 13 1), .scr []] = .ok (.nxt (S7 (V (.tuple [.str "trimmed", .int 1])) (V t) x7 x8 x9 (V (.tuple [.str "trimmed", .int 3])))) [.orc (Orc.tl (Orc.tl (Orc.upd (Orc.upd o 1 13 3) 0 13 1))), .scr []]) ∧ (Fb t (S7 x5 x6 x7 x8 x9 x10) [.orc (Orc.upd (Orc.upd o 1 13 4) 0 13 1), .scr []] = .ok (.nxt (S7 (V (.tuple [.str "trimmed", .int 1])) (V t) x7 x8 x9 (V (.tuple [.str "winsorized", .int 0])))) [.orc (Orc.tl (Orc.tl (Orc.upd (Orc.upd o 1 13 4) 0 13 1))), .scr []]) ∧ (Fb t (S7 x5 x6 x7 x8 x9 x10) [.orc (Orc.upd (Orc.upd o 1 13 5) 0 13 1), .scr []] = .ok (.nxt (S7 (V (.tuple [.str "trimmed", .int 1])) (V t) x7 x8 x9 (V (.tuple [.str "winsorized", .int 1])))) [.orc (Orc.tl (Orc.tl (Orc.upd (Orc.upd o 1 13 5) 0 13 1))), .scr []]) ∧ (Fb t (S7 x5 x6 x7 x8 x9 x10) [.orc (Orc.upd (Orc.upd o 1 13 6) 0 13 1), .scr []] = .ok (.nxt (S7 (V (.tuple [.str "trimmed", .int 1])) (V t) x7 x8 x9 (V (.tuple [.str "winsorized", .int 2])))) [.orc (Orc.tl (Orc.tl (Orc.upd (Orc.upd o 1 13 6) 0 13 1))), .scr []]) ∧ (Fb t (S7 x5 x6 x7 x8 x9 x10) [.orc (Orc.upd (Orc.upd o 1 13 7) 0 13 1), .scr []] = .ok (.nxt (S7 (V (.tuple [.str "trimmed", .int 1])) (V t) x7 x8 x9 (V (.tuple [.str "winsorized", .int 3])))) [.orc (Orc.tl (Orc.tl (Orc.upd (Orc.upd o 1 13 7) 0 13 1))), .scr []]) ∧ (Fb t (S7 x5 x6 x7 x8 x9 x10) [.orc (Orc.upd (Orc.upd o 1 13 8) 0 13 1), .scr []] = .ok (.nxt (S7 (V (.tuple [.str "trimmed", .int 1])) (V t) x7 x8 x9 (V (.tuple [.str "pairs", .int 0])))) [.orc (Orc.tl (Orc.tl (Orc.upd (Orc.upd o 1 13 8) 0 13 1))), .scr []]) ∧ (Fb t (S7 x5 x6 x7 x8 x9 x10) [.orc (Orc.upd (Orc.upd o 1 13 9) 0 13 1), .scr []] = .ok (.nxt (S7 (V (.tuple [.str "trimmed", .int 1])) (V t) x7 x8 x9 (V (.tuple [.str "groups", .int 1])))) [.orc (Orc.tl (Orc.tl (Orc.upd (Orc.upd o 1 13 9) 0 13 1))), .scr []]) ∧ (Fb t (S7 x5 x6 x7 x8 x9 x10) [.orc (Orc.upd (Orc.upd o 1 13 10) 0 13 1), .scr []] = .ok (.nxt (S7 (V (.tuple [.str "trimmed", .int 1])) (V t) x7 x8 x9 (V (.tuple [.str "groups", .int 2])))) [.orc (Orc.tl (Orc.tl (Orc.upd (Orc.upd o 1 13 10) 0 13 1))), .scr []]) ∧ (Fb t (S7 x5 x6 x7 x8 x9 x10) [.orc (Orc.upd (Orc.upd o 1 13 11) 0 13 1), .scr []] = .ok (.nxt (S7 (V (.tuple [.str "trimmed", .int 1])) (V t) x7 x8 x9 (V (.tuple [.str "groups", .int 4])))) [.orc (Orc.tl (Orc.tl (Orc.upd (Orc.upd o 1 13 11) 0 13 1))), .scr []]) ∧ (Fb t (S7 x5 x6 x7 x8 x9 x10) [.orc (Orc.upd (Orc.upd o 1 13 12) 0 13 1), .scr []] = .ok (.nxt (S7 (V (.tuple [.str "trimmed", .int 1])) (V t) x7 x8 x9 (V (.tuple [.str "groups", .int 8])))) [.orc (Orc.tl (Orc.tl (Orc.upd (Orc.upd o 1 13 12) 0 13 1))), .scr []]) := ⟨by kernel_rfl, by kernel_rfl, by kernel_rfl, by kernel_rfl, by kernel_rfl, by kernel_rfl, by kernel_rfl, by kernel_rfl, by kernel_rfl, by kernel_rfl, by kernel_rfl, by kernel_rfl, by kernel_rfl⟩
theorem pr7_2 (t : D) (x5 x6 x7 x8 x9 x10 : Option RV) (o : Orc) : (Fb t (S7 x5 x6 x7 x8 x9 x10) [.orc (Orc.upd (Orc.upd o 1 13 0) 0 13 2), .scr []] = .ok (.nxt (S7 (V (.tuple [.str "trimmed", .int 2])) (V t) x7 x8 x9 (V (.tuple [.str "trimmed", .int 0])))) [.orc (Orc.tl (Orc.tl (Orc.upd (Orc.upd o 1 13 0) 0 13 2))), .scr []]) ∧ (Fb t (S7 x5 x6 x7 x8 x9 x10) [.orc (Orc.upd (Orc.upd o 1 13 1) 0 13 2), .scr []] = .ok (.nxt (S7 (V (.tuple [.str "trimmed", .int 2])) (V t) x7 x8 x9 (V (.tuple [.str "trimmed", .int 1])))) [.orc (Orc.tl (Orc.tl (Orc.upd (Orc.upd o 1 13 1) 0 13 2))), .scr []]) ∧ (Fb t (S7 x5 x6 x7 x8 x9 x10) [.orc (Orc.upd (Orc.upd o 1 13 2) 0 13 2), .scr []] = .ok (.nxt (S7 (V (.tuple [.str "trimmed", .int 2])) (V t) x7 x8 x9 (V (.tuple [.str "trimmed", .int 2])))) [.orc (Orc.tl (Orc.tl (Orc.upd (Orc.upd o 1 13 2) 0 13 2))), .scr []]) ∧ (Fb t (S7 x5 x6 x7 x8 x9 x10) [.orc (Orc.upd (Orc.upd o 1 13 3) 0 13 2), .scr []] = .ok (.nxt (S7 (V (.tuple [.str "trimmed", .int 2])) (V t) x7 x8 x9 (V (.tuple [.str "trimmed", .int 3])))) [.orc (Orc.tl (Orc.tl (Orc.upd (Orc.upd o 1 13 3) 0 13 2))), .scr []]) ∧ (Fb t (S7 x5 x6 x7 x8 x9 x10) [.orc (Orc.upd (Orc.upd o 1 13 4) 0 13 2), .scr []] = .ok (.nxt (S7 (V (.tuple [.str "trimmed", .int 2])) (V t) x7 x8 x9 (V (.tuple [.str "winsorized", .int 0])))) [.orc (Orc.tl (Orc.tl (Orc.upd (Orc.upd o 1 13 4) 0 13 2))), .scr []]) ∧ (Fb t (S7 x5 x6 x7 x8 x9 x10) [.orc (Orc.upd (Orc.upd o 1 13 5) 0 13 2), .scr []] = .ok (.nxt (S7 (V (.tuple [.str "trimmed", .int 2])) (V t) x7 x8 x9 (V (.tuple [.str "winsorized", .int 1])))) [.orc (Orc.tl (Orc.tl (Orc.upd (Orc.upd o 1 13 5) 0 13 2))), .scr []]) ∧ (Fb t (S7 x5 x6 x7 x8 x9 x10) [.orc (Orc.upd (Orc.upd o 1 13 6) 0 13 2), .scr []] = .ok (.nxt (S7 (V (.tuple [.str "trimmed", .int 2])) (V t) x7 x8 x9 (V (.tuple [.str "winsorized", .int 2])))) [.orc (Orc.tl (Orc.tl (Orc.upd (Orc.upd o 1 13 6) 0 13 2))), .scr []]) ∧ (Fb t (S7 x5 x6 x7 x8 x9 x10) [.orc (Orc.upd (Orc.upd o 1 13 7) 0 13 2), .scr []] = .ok (.nxt (S7 (V (.tuple [.str "trimmed", .int 2])) (V t) x7 x8 x9 (V (.tuple [.str "winsorized", .int 3])))) [.orc (Orc.tl (Orc.tl (Orc.upd (Orc.upd o 1 13 7) 0 13 2))), .scr []]) ∧ (Fb t (S7 x5 x6 x7 x8 x9 x10) [.orc (Orc.upd (Orc.upd o 1 13 8) 0 13 2), .scr []] = .ok (.nxt (S7 (V (.tuple [.str "trimmed", .int 2])) (V t) x7 x8 x9 (V (.tuple [.str "pairs", .int 0])))) [.orc (Orc.tl (Orc.tl (Orc.upd (Orc.upd o 1 13 8) 0 13 2))), .scr []]) ∧ (Fb t (S7 x5 x6 x7 x8 x9 x10) [.orc (Orc.upd (Orc.upd o 1 13 9) 0 13 2), .scr []] = .ok (.nxt (S7 (V (.tuple [.str "trimmed", .int 2])) (V t) x7 x8 x9 (V (.tuple [.str "groups", .int 1])))) [.orc (Orc.tl (Orc.tl (Orc.upd (Orc.upd o 1 13 9) 0 13 2))), .scr []]) ∧ (Fb t (S7 x5 x6 x7 x8 x9 x10) [.orc (Orc.upd (Orc.upd o 1 13 10) 0 13 2), .scr []] = .ok (.nxt (S7 (V (.tuple [.str "trimmed", .int 2])) (V t) x7 x8 x9 (V (.tuple [.str "groups", .int 2])))) [.orc (Orc.tl (Orc.tl (Orc.upd (Orc.upd o 1 13 10) 0 13 2))), .scr []]) ∧ (Fb t (S7 x5 x6 x7 x8 x9 x10) [.orc (Orc.upd (Orc.upd o 1 13 11) 0 13 2), .scr []] = .ok (.nxt (S7 (V (.tuple [.str "trimmed", .int 2])) (V t) x7 x8 x9 (V (.tuple [.str "groups", .int 4])))) [.orc (Orc.tl (Orc.tl (Orc.upd (Orc.upd o 1 13 11) 0 13 2))), .scr []]) ∧ (Fb t (S7 x5 x6 x7 x8 x9 x10) [.orc (Orc.upd (Orc.upd o 1 13 12) 0 13 2), .scr []] = .ok (.nxt (S7 (V (.tuple [.str "trimmed", .int 2])) (V t) x7 x8 x9 (V (.tuple [.str "groups", .int 8])))) [.orc (Orc.tl (Orc.tl (Orc.upd (Orc.upd o 1 13 12) 0 13 2))), .scr []]) := ⟨by kernel_rfl, by kernel_rfl, by kernel_rfl, by kernel_rfl, by kernel_rfl, by kernel_rfl, by kernel_rfl, by kernel_rfl, by kernel_rfl, by kernel_rfl, by kernel_rfl, by kernel_rfl, by kernel_rfl⟩
theorem pr7_3 (t : D) (x5 x6 x7 x8 x9 x10 : Option RV) (o : Orc) : (Fb t (S7 x5 x6 x7 x8 x9 x10) [.orc (Orc.upd (Orc.upd o 1 13 0) 0 13 3), .scr []] = .ok (.nxt (S7 (V (.tuple [.str "trimmed", .int 3])) (V t) x7 x8 x9 (V (.tuple [.str "trimmed", .int 0])))) [.orc (Orc.tl (Orc.tl (Orc.upd (Orc.upd o 1 13 0) 0 13 3))), .scr []]) ∧ (Fb t (S7 x5 x6 x7 x8 x9 x10) [.orc (Orc.upd (Orc.upd o 1 13 1) 0 13 3), .scr []] = .ok (.nxt (S7 (V (.tuple [.str "trimmed", .int 3])) (V t) x7 x8 x9 (V (.tuple [.str "trimmed", .int 1])))) [.orc (Orc.tl (Orc.tl (Orc.upd (Orc.upd o 1 13 1) 0 13 3))), .scr []]) ∧ (Fb t (S7 x5 x6 x7 x8 x9 x10) [.orc (Orc.upd (Orc.upd o 1 13 2) 0 13 3), .scr []] = .ok (.nxt (S7 (V (.tuple [.str "trimmed", .int 3])) (V t) x7 x8 x9 (V (.tuple [.str "trimmed", .int 2])))) [.orc (Orc.tl (Orc.tl (Orc.upd (Orc.upd o 1 13 2) 0 13 3))), .scr []]) ∧ (Fb t (S7 x5 x6 x7 x8 x9 x10) [.orc (Orc.upd (Orc.upd o 1 13 3) 0 13 3), .scr []] = .ok (.nxt (S7 (V (.tuple [.str "trimmed", .int 3])) (V t) x7 x8 x9 (V (.tuple [.str "trimmed", .int 3])))) [.orc (Orc.tl (Orc.tl (Orc.upd (Orc.upd o 1 13 3) 0 13 3))), .scr []]) ∧ (Fb t (S7 x5 x6 x7 x8 x9 x10) [.orc (Orc.upd (Orc.upd o 1 13 4) 0 13 3), .scr []] = .ok (.nxt (S7 (V (.tuple [.str "trimmed", .int 3])) (V t) x7 x8 x9 (V (.tuple [.str "winsorized", .int 0])))) [.orc (Orc.tl (Orc.tl (Orc.upd (Orc.upd o 1 13 4) 0 13 3))), .scr []]) ∧ (Fb t (S7 x5 x6 x7 x8 x9 x10) [.orc (Orc.upd (Orc.upd o 1 13 5) 0 13 3), .scr []] = .ok (.nxt (S7 (V (.tuple [.str "trimmed", .int 3])) (V t) x7 x8 x9 (V (.tuple [.str "winsorized", .int 1])))) [.orc (Orc.tl (Orc.tl (Orc.upd (Orc.upd o 1 13 5) 0 13 3))), .scr []]) ∧ (Fb t (S7 x5 x6 x7 x8 x9 x10) [.orc (Orc.upd (Orc.upd o 1 13 6) 0 13 3), .scr []] = .ok (.nxt (S7 (V (.tuple [.str "trimmed", .int 3])) (V t) x7 x8 x9 (V (.tuple [.str "winsorized", .int 2])))) [.orc (Orc.tl (Orc.tl (Orc.upd (Orc.upd o 1 13 6) 0 13 3))), .scr []]) ∧ (Fb t (S7 x5 x6 x7 x8 x9 x10) [.orc (Orc.upd (Orc.upd o 1 13 7) 0 13 3), .scr []] = .ok (.nxt (S7 (V (.tuple [.str "trimmed", .int 3])) (V t) x7 x8 x9 (V (.tuple [.str "winsorized", .int 3])))) [.orc (Orc.tl (Orc.tl (Orc.upd (Orc.upd o 1 13 7) 0 13 3))), .scr []]) ∧ (Fb t (S7 x5 x6 x7 x8 x9 x10) [.orc (Orc.upd (Orc.upd o 1 13 8) 0 13 3), .scr []] = .ok (.nxt (S7 (V (.tuple [.str "trimmed", .int 3])) (V t) x7 x8 x9 (V (.tuple [.str "pairs", .int 0])))) [.orc (Orc.tl (Orc.tl (Orc.upd (Orc.upd o 1 13 8) 0 13 3))), .scr []]) ∧ (Fb t (S7 x5 x6 x7 x8 x9 x10) [.orc (Orc.upd (Orc.upd o 1 13 9) 0 13 3), .scr []] = .ok (.nxt (S7 (V (.tuple [.str "trimmed", .int 3])) (V t) x7 x8 x9 (V (.tuple [.str "groups", .int 1])))) [.orc (Orc.tl (Orc.tl (Orc.upd (Orc.upd o 1 13 9) 0 13 3))), .scr []]) ∧ (Fb t (S7 x5 x6 x7 x8 x9 x10) [.orc (Orc.upd (Orc.upd o 1 13 10) 0 13 3), .scr []] = .ok (.nxt (S7 (V (.tuple [.str "trimmed", .int 3])) (V t) x7 x8 x9 (V (.tuple [.str "groups", .int 2])))) [.orc (Orc.tl (Orc.tl (Orc.upd (Orc.upd o 1 13 10) 0 13 3))), .scr []]) ∧ (Fb t (S7 x5 x6 x7 x8 x9 x10) [.orc (Orc.upd (Orc.upd o 1 13 11) 0 13 3), .scr []] = .ok (.nxt (S7 (V (.tuple [.str "trimmed", .int 3])) (V t) x7 x8 x9 (V (.tuple [.str "groups", .int 4])))) [.orc (Orc.tl (Orc.tl (Orc.upd (Orc.upd o 1 13 11) 0 13 3))), .scr []]) ∧ (Fb t (S7 x5 x6 x7 x8 x9 x10) [.orc (Orc.upd (Orc.upd o 1 13 12) 0 13 3), .scr []] = .ok (.nxt (S7 (V (.tuple [.str "trimmed", .int 3])) (V t) x7 x8 x9 (V (.tuple [.str "groups", .int 8])))) [.orc (Orc.tl (Orc.tl (Orc.upd (Orc.upd o 1 13 12) 0 13 3))), .scr []]) := ⟨by kernel_rfl, by kernel_rfl, by kernel_rfl, by kernel_rfl, by kernel_rfl, by kernel_rfl, by kernel_rfl, by kernel_rfl, by kernel_rfl, by kernel_rfl, by kernel_rfl, by kernel_rfl, by kernel_rfl⟩
theorem pr7_4 (t : D) (x5 x6 x7 x8 x9 x10 : Option RV) (o : Orc) : (Fb t (S7 x5 x6 x7 x8 x9 x10) [.orc (Orc.upd (Orc.upd o 1 13 0) 0 13 4), .scr []] = .ok (.nxt (S7 (V (.tuple [.str "winsorized", .int 0])) (V t) x7 x8 x9 (V (.tuple [.str "trimmed", .int 0])))) [.orc (Orc.tl (Orc.tl (Orc.upd (Orc.upd o 1 13 0) 0 13 4))), .scr []]) ∧ (Fb t (S7 x5 x6 x7 x8 x9 x10) [.orc (Orc.upd (Orc.upd o 1 13 1) 0 13 4), .scr []] = .ok (.nxt (S7 (V (.tuple [.str "winsorized", .int 0])) (V t) x7 x8 x9 (V (.tuple [.str "trimmed", .int 1])))) [.orc (Orc.tl (Orc.tl (Orc.upd (Orc.upd o 1 13 1) 0 13 4))), .scr []]) ∧ (Fb t (S7 x5 x6 x7 x8 x9 x10) [.orc (Orc.upd (Orc.upd o 1 13 2) 0 13 4), .scr []] = .ok (.nxt (S7 (V (.tuple [.str "winsorized", .int 0])) (V t) x7 x8 x9 (V (.tuple [.str "trimmed", .int 2])))) [.orc (Orc.tl (Orc.tl (Orc.upd (Orc.upd o 1 13 2) 0 13 4))), .scr []]) ∧ (Fb t (S7 x5 x6 x7 x8 x9 x10) [.orc (Orc.upd (Orc.upd o 1 13 3) 0 13 4), .scr []] = .ok (.nxt (S7 (V (.tuple [.str "winsorized", .int 0])) (V t) x7 x8 x9 (V (.tuple [.str "trimmed", .int 3])))) [.orc (Orc.tl (Orc.tl (Orc.upd (Orc.upd o 1 13 3) 0 13 4))), .scr []]) ∧ (Fb t (S7 x5 x6 x7 x8 x9 x10) [.orc (Orc.upd (Orc.upd o 1 13 4) 0 13 4), .scr []] = .ok (.nxt (S7 (V (.tuple [.str "winsorized", .int 0])) (V t) x7 x8 x9 (V (.tuple [.str "winsorized", .int 0])))) [.orc (Orc.tl (Orc.tl (Orc.upd (Orc.upd o 1 13 4) 0 13 4))), .scr []]) ∧ (Fb t (S7 x5 x6 x7 x8 x9 x10) [.orc (Orc.upd (Orc.upd o 1 13 5) 0 13 4), .scr []] = .ok (.nxt (S7 (V (.tuple [.str "winsorized", .int 0])) (V t) x7 x8 x9 (V (.tuple [.str "winsorized", .int 1])))) [.orc (Orc.tl (Orc.tl (Orc.upd (Orc.upd o 1 13 5) 0 13 4))), .scr []]) ∧ (Fb t (S7 x5 x6 x7 x8 x9 x10) [.orc (Orc.upd (Orc.upd o 1 13 6) 0 13 4), .scr []] = .ok (.nxt (S7 (V (.tuple [.str "winsorized", .int 0])) (V t) x7 x8 x9 (V (.tuple [.str "winsorized", .int 2])))) [.orc (Orc.tl (Orc.tl (Orc.upd (Orc.upd o 1 13 6) 0 13 4))), .scr []]) ∧ (Fb t (S7 x5 x6 x7 x8 x9 x10) [.orc (Orc.upd (Orc.upd o 1 13 7) 0 13 4), .scr []] = .ok (.nxt (S7 (V (.tuple [.str "winsorized", .int 0])) (V t) x7 x8 x9 (V (.tuple [.str "winsorized", .int 3])))) [.orc (Orc.tl (Orc.tl (Orc.upd (Orc.upd o 1 13 7) 0 13 4))), .scr []]) ∧ (Fb t (S7 x5 x6 x7 x8 x9 x10) [.orc (Orc.upd (Orc.upd o 1 13 8) 0 13 4), .scr []] = .ok (.nxt (S7 (V (.tuple [.str "winsorized", .int 0])) (V t) x7 x8 x9 (V (.tuple [.str "pairs", .int 0])))) [.orc (Orc.tl (Orc.tl (Orc.upd (Orc.upd o 1 13 8) 0 13 4))), .scr []]) ∧ (Fb t (S7 x5 x6 x7 x8 x9 x10) [.orc (Orc.upd (Orc.upd o 1 13 9) 0 13 4), .scr []] = .ok (.nxt (S7 (V (.tuple [.str "winsorized", .int 0])) (V t) x7 x8 x9 (V (.tuple [.str "groups", .int 1])))) [.orc (Orc.tl (Orc.tl (Orc.upd (Orc.upd o 1 13 9) 0 13 4))), .scr []]) ∧ (Fb t (S7 x5 x6 x7 x8 x9 x10) [.orc (Orc.upd (Orc.upd o 1 13 10) 0 13 4), .scr []] = .ok (.nxt (S7 (V (.tuple [.str "winsorized", .int 0])) (V t) x7 x8 x9 (V (.tuple [.str "groups", .int 2])))) [.orc (Orc.tl (Orc.tl (Orc.upd (Orc.upd o 1 13 10) 0 13 4))), .scr []]) ∧ (Fb t (S7 x5 x6 x7 x8 x9 x10) [.orc (Orc.upd (Orc.upd o 1 13 11) 0 13 4), .scr []] = .ok (.nxt (S7 (V (.tuple [.str "winsorized", .int 0])) (V t) x7 x8 x9 (V (.tuple [.str "groups", .int 4])))) [.orc (Orc.tl (Orc.tl (Orc.upd (Orc.upd o 1 13 11) 0 13 4))), .scr []]) ∧ (Fb t (S7 x5 x6 x7 x8 x9 x10) [.orc (Orc.upd (Orc.upd o 1 13 12) 0 13 4), .scr []] = .ok (.nxt (S7 (V (.tuple [.str "winsorized", .int 0])) (V t) x7 x8 x9 (V (.tuple [.str "groups", .int 8])))) [.orc (Orc.tl (Orc.tl (Orc.upd (Orc.upd o 1 13 12) 0 13 4))), .scr []]) := ⟨by kernel_rfl, by kernel_rfl, by kernel_rfl, by kernel_rfl, by kernel_rfl, by kernel_rfl, by kernel_rfl, by kernel_rfl, by kernel_rfl, by kernel_rfl, by kernel_rfl, by kernel_rfl, by kernel_rfl⟩
theorem pr7_5 (t : D) (x5 x6 x7 x8 x9 x10 : Option RV) (o : Orc) : (Fb t (S7 x5 x6 x7 x8 x9 x10) [.orc (Orc.upd (Orc.upd o 1 13 0) 0 13 5), .scr []] = .ok (.nxt (S7 (V (.tuple [.str "winsorized", .int 1])) (V t) x7 x8 x9 (V (.tuple [.str "trimmed", .int 0])))) [.orc (Orc.tl (Orc.tl (Orc.upd (Orc.upd o 1 13 0) 0 13 5))), .scr []]) ∧ (Fb t (S7 x5 x6 x7 x8 x9 x10) [.orc (Orc.upd (Orc.upd o 1 13 1) 0 13 5), .scr []] = .ok (.nxt (S7 (V (.tuple [.str "winsorized", .int 1])) (V t) x7 x8 x9 (V (.tuple [.str "trimmed", .int 1])))) [.orc (Orc.tl (Orc.tl (Orc.upd (Orc.upd o 1 13 1) 0 13 5))), .scr []]) ∧ (Fb t (S7 x5 x6 x7 x8 x9 x10) [.orc (Orc.upd (Orc.upd o 1 13 2) 0 13 5), .scr []] = .ok (.nxt (S7 (V (.tuple [.str "winsorized", .int 1])) (V t) x7 x8 x9 (V (.tuple [.str "trimmed", .int 2])))) [.orc (Orc.tl (Orc.tl (Orc.upd (Orc.upd o 1 13 2) 0 13 5))), .scr []]) ∧ (Fb t (S7 x5 x6 x7 x8 x9 x10) [.orc (Orc.upd (Orc.upd o 1 13 3) 0 13 5), .scr []] = .ok (.nxt (S7 (V (.tuple [.str "winsorized", .int 1])) (V t) x7 x8 x9 (V (.tuple [.str "trimmed", .int 3])))) [.orc (Orc.tl (Orc.tl (Orc.upd (Orc.upd o 1 13 3) 0 13 5))), .scr []]) ∧ (Fb t (S7 x5 x6 x7 x8 x9 x10) [.orc (Orc.upd (Orc.upd o 1 13 4) 0 13 5), .scr []] = .ok (.nxt (S7 (V (.tuple [.str "winsorized", .int 1])) (V t) x7 x8 x9 (V (.tuple [.str "winsorized", .int 0])))) [.orc (Orc.tl (Orc.tl (Orc.upd (Orc.upd o 1 13 4) 0 13 5))), .scr []]) ∧ (Fb t (S7 x5 x6 x7 x8 x9 x10) [.orc (Orc.upd (Orc.upd o 1 13 5) 0 13 5), .scr []] = .ok (.nxt (S7 (V (.tuple [.str "winsorized", .int 1])) (V t) x7 x8 x9 (V (.tuple [.str "winsorized", .int 1])))) [.orc (Orc.tl (Orc.tl (Orc.upd (Orc.upd o 1 13 5) 0 13 5))), .scr []]) ∧ (Fb t (S7 x5 x6 x7 x8 x9 x10) [.orc (Orc.upd (Orc.upd o 1 13 6) 0 13 5), .scr []] = .ok (.nxt (S7 (V (.tuple [.str "winsorized", .int 1])) (V t) x7 x8 x9 (V (.tuple [.str "winsorized", .int 2])))) [.orc (Orc.tl (Orc.tl (Orc.upd (Orc.upd o 1 13 6) 0 13 5))), .scr []]) ∧ (Fb t (S7 x5 x6 x7 x8 x9 x10) [.orc (Orc.upd (Orc.upd o 1 13 7) 0 13 5), .scr []] = .ok (.nxt (S7 (V (.tuple [.str "winsorized", .int 1])) (V t) x7 x8 x9 (V (.tuple [.str "winsorized", .int 3])))) [.orc (Orc.tl (Orc.tl (Orc.upd (Orc.upd o 1 13 7) 0 13 5))), .scr []]) ∧ (Fb t (S7 x5 x6 x7 x8 x9 x10) [.orc (Orc.upd (Orc.upd o 1 13 8) 0 13 5), .scr []] = .ok (.nxt (S7 (V (.tuple [.str "winsorized", .int 1])) (V t) x7 x8 x9 (V (.tuple [.str "pairs", .int 0])))) [.orc (Orc.tl (Orc.tl (Orc.upd (Orc.upd o 1 13 8) 0 13 5))), .scr []]) ∧ (Fb t (S7 x5 x6 x7 x8 x9 x10) [.orc (Orc.upd (Orc.upd o 1 13 9) 0 13 5), .scr []] = .ok (.nxt (S7 (V (.tuple [.str "winsorized", .int 1])) (V t) x7 x8 x9 (V (.tuple [.str "groups", .int 1])))) [.orc (Orc.tl (Orc.tl (Orc.upd (Orc.upd o 1 13 9) 0 13 5))), .scr []]) ∧ (Fb t (S7 x5 x6 x7 x8 x9 x10) [.orc (Orc.upd (Orc.upd o 1 13 10) 0 13 5), .scr []] = .ok (.nxt (S7 (V (.tuple [.str "winsorized", .int 1])) (V t) x7 x8 x9 (V (.tuple [.str "groups", .int 2])))) [.orc (Orc.tl (Orc.tl (Orc.upd (Orc.upd o 1 13 10) 0 13 5))), .scr []]) ∧ (Fb t (S7 x5 x6 x7 x8 x9 x10) [.orc (Orc.upd (Orc.upd o 1 13 11) 0 13 5), .scr []] = .ok (.nxt (S7 (V (.tuple [.str "winsorized", .int 1])) (V t) x7 x8 x9 (V (.tuple [.str "groups", .int 4])))) [.orc (Orc.tl (Orc.tl (Orc.upd (Orc.upd o 1 13 11) 0 13 5))), .scr []]) ∧ (Fb t (S7 x5 x6 x7 x8 x9 x10) [.orc (Orc.upd (Orc.upd o 1 13 12) 0 13 5), .scr []] = .ok (.nxt (S7 (V (.tuple [.str "winsorized", .int 1])) (V t) x7 x8 x9 (V (.tuple [.str "groups", .int 8])))) [.orc (Orc.tl (Orc.tl (Orc.upd (Orc.upd o 1 13 12) 0 13 5))), .scr []]) := ⟨by kernel_rfl, by kernel_rfl, by kernel_rfl, by kernel_rfl, by kernel_rfl, by kernel_rfl, by kernel_rfl, by kernel_rfl, by kernel_rfl, by kernel_rfl, by kernel_rfl, by kernel_rfl, by kernel_rfl⟩
theorem pr7_6 (t : D) (x5 x6 x7 x8 x9 x10 : Option RV) (o : Orc) : (Fb t (S7 x5 x6 x7 x8 x9 x10) [.orc (Orc.upd (Orc.upd o 1 13 0) 0 13 6), .scr []] = .ok (.nxt (S7 (V (.tuple [.str "winsorized", .int 2])) (V t) x7 x8 x9 (V (.tuple [.str "trimmed", .int 0])))) [.orc (Orc.tl (Orc.tl (Orc.upd (Orc.upd o 1 13 0) 0 13 6))), .scr []]) ∧ (Fb t (S7 x5 x6 x7 x8 x9 x10) [.orc (Orc.upd (Orc.upd o 1 13 1) 0 13 6), .scr []] = .ok (.nxt (S7 (V (.tuple [.str "winsorized", .int 2])) (V t) x7 x8 x9 (V (.tuple [.str "trimmed", .int 1])))) [.orc (Orc.tl (Orc.tl (Orc.upd (Orc.upd o 1 13 1) 0 13 6))), .scr []]) ∧ (Fb t (S7 x5 x6 x7 x8 x9 x10) [.orc (Orc.upd (Orc.upd o 1 13 2) 0 13 6), .scr []] = .ok (.nxt (S7 (V (.tuple [.str "winsorized", .int 2])) (V t) x7 x8 x9 (V (.tuple [.str "trimmed", .int 2])))) [.orc (Orc.tl (Orc.tl (Orc.upd (Orc.upd o 1 13 2) 0 13 6))), .scr []]) ∧ (Fb t (S7 x5 x6 x7 x8 x9 x10) [.orc (Orc.upd (Orc.upd o 1 13 3) 0 13 6), .scr []] = .ok (.nxt (S7 (V (.tuple [.str "winsorized", .int 2])) (V t) x7 x8 x9 (V (.tuple [.str "trimmed", .int 3])))) [.orc (Orc.tl (Orc.tl (Orc.upd (Orc.upd o 1 13 3) 0 13 6))), .scr []]) ∧ (Fb t (S7 x5 x6 x7 x8 x9 x10) [.orc (Orc.upd (Orc.upd o 1 13 4) 0 13 6), .scr []] = .ok (.nxt (S7 (V (.tuple [.str "winsorized", .int 2])) (V t) x7 x8 x9 (V (.tuple [.str "winsorized", .int 0])))) [.orc (Orc.tl (Orc.tl (Orc.upd (Orc.upd o 1 13 4) 0 13 6))), .scr []]) ∧ (Fb t (S7 x5 x6 x7 x8 x9 x10) [.orc (Orc.upd (Orc.upd o 1 13 5) 0 13 6), .scr []] = .ok (.nxt (S7 (V (.tuple [.str "winsorized", .int 2])) (V t) x7 x8 x9 (V (.tuple [.str "winsorized", .int 1])))) [.orc (Orc.tl (Orc.tl (Orc.upd (Orc.upd o 1 13 5) 0 13 6))), .scr []]) ∧ (Fb t (S7 x5 x6 x7 x8 x9 x10) [.orc (Orc.upd (Orc.upd o 1 13 6) 0 13 6), .scr []] = .ok (.nxt (S7 (V (.tuple [.str "winsorized", .int 2])) (V t) x7 x8 x9 (V (.tuple [.str "winsorized", .int 2])))) [.orc (Orc.tl (Orc.tl (Orc.upd (Orc.upd o 1 13 6) 0 13 6))), .scr []]) ∧ (Fb t (S7 x5 x6 x7 x8 x9 x10) [.orc (Orc.upd (Orc.upd o 1 13 7) 0 13 6), .scr []] = .ok (.nxt (S7 (V (.tuple [.str "winsorized", .int 2])) (V t) x7 x8 x9 (V (.tuple [.str "winsorized", .int 3])))) [.orc (Orc.tl (Orc.tl (Orc.upd (Orc.upd o 1 13 7) 0 13 6))), .scr []]) ∧ (Fb t (S7 x5 x6 x7 x8 x9 x10) [.orc (Orc.upd (Orc.upd o 1 13 8) 0 13 6), .scr []] = .ok (.nxt (S7 (V (.tuple [.str "winsorized", .int 2])) (V t) x7 x8 x9 (V (.tuple [.str "pairs", .int 0])))) [.orc (Orc.tl (Orc.tl (Orc.upd (Orc.upd o 1 13 8) 0 13 6))), .scr []]) ∧ (Fb t (S7 x5 x6 x7 x8 x9 x10) [.orc (Orc.upd (Orc.upd o 1 13 9) 0 13 6), .scr []] = .ok (.nxt (S7 (V (.tuple [.str "winsorized", .int 2])) (V t) x7 x8 x9 (V (.tuple [.str "groups", .int 1])))) [.orc (Orc.tl (Orc.tl (Orc.upd (Orc.upd o 1 13 9) 0 13 6))), .scr []]) ∧ (Fb t (S7 x5 x6 x7 x8 x9 x10) [.orc (Orc.upd (Orc.upd o 1 13 10) 0 13 6), .scr []] = .ok (.nxt (S7 (V (.tuple [.str "winsorized", .int 2])) (V t) x7 x8 x9 (V (.tuple [.str "groups", .int 2])))) [.orc (Orc.tl (Orc.tl (Orc.upd (Orc.upd o 1 13 10) 0 13 6))), .scr []]) ∧ (Fb t (S7 x5 x6 x7 x8 x9 x10) [.orc (Orc.upd (Orc.upd o 1 13 11) 0 13 6), .scr []] = .ok (.nxt (S7 (V (.tuple [.str "winsorized", .int 2])) (V t) x7 x8 x9 (V (.tuple [.str "groups", .int 4])))) [.orc (Orc.tl (Orc.tl (Orc.upd (Orc.upd o 1 13 11) 0 13 6))), .scr []]) ∧ (Fb t (S7 x5 x6 x7 x8 x9 x10) [.orc (Orc.upd (Orc.upd o 1 13 12) 0 13 6), .scr []] = .ok (.nxt (S7 (V (.tuple [.str "winsorized", .int 2])) (V t) x7 x8 x9 (V (.tuple [.str "groups", .int 8])))) [.orc (Orc.tl (Orc.tl (Orc.upd (Orc.upd o 1 13 12) 0 13 6))), .scr []]) := ⟨by kernel_rfl, by kernel_rfl, by kernel_rfl, by kernel_rfl, by kernel_rfl, by kernel_rfl, by kernel_rfl, by kernel_rfl, by kernel_rfl, by kernel_rfl, by kernel_rfl, by kernel_rfl, by kernel_rfl⟩
theorem pr7_7 (t : D) (x5 x6 x7 x8 x9 x10 : Option RV) (o : Orc) : (Fb t (S7 x5 x6 x7 x8 x9 x10) [.orc (Orc.upd (Orc.upd o 1 13 0) 0 13 7), .scr []] = .ok (.nxt (S7 (V (.tuple [.str "winsorized", .int 3])) (V t) x7 x8 x9 (V (.tuple [.str "trimmed", .int 0])))) [.orc (Orc.tl (Orc.tl (Orc.upd (Orc.upd o 1 13 0) 0 13 7))), .scr []]) ∧ (Fb t (S7 x5 x6 x7 x8 x9 x10) [.orc (Orc.upd (Orc.upd o 1 13 1) 0 13 7), .scr []] = .ok (.nxt (S7 (V (.tuple [.str "winsorized", .int 3])) (V t) x7 x8 x9 (V (.tuple [.str "trimmed", .int 1])))) [.orc (Orc.tl (Orc.tl (Orc.upd (Orc.upd o 1 13 1) 0 13 7))), .scr []]) ∧ (Fb t (S7 x5 x6 x7 x8 x9 x10) [.orc (Orc.upd (Orc.upd o 1 13 2) 0 13 7), .scr []] = .ok (.nxt (S7 (V (.tuple [.str "winsorized", .int 3])) (V t) x7 x8 x9 (V (.tuple [.str "trimmed", .int 2])))) [.orc (Orc.tl (Orc.tl (Orc.upd (Orc.upd o 1 13 2) 0 13 7))), .scr []]) ∧ (Fb t (S7 x5 x6 x7 x8 x9 x10) [.orc (Orc.upd (Orc.upd o 1 13 3) 0 13 7), .scr []] = .ok (.nxt (S7 (V (.tuple [.str "winsorized", .int 3])) (V t) x7 x8 x9 (V (.tuple [.str "trimmed", .int 3])))) [.orc (Orc.tl (Orc.tl (Orc.upd (Orc.upd o 1 13 3) 0 13 7))), .scr []]) ∧ (Fb t (S7 x5 x6 x7 x8 x9 x10) [.orc (Orc.upd (Orc.upd o 1 13 4) 0 13 7), .scr []] = .ok (.nxt (S7 (V (.tuple [.str "winsorized", .int 3])) (V t) x7 x8 x9 (V (.tuple [.str "winsorized", .int 0])))) [.orc (Orc.tl (Orc.tl (Orc.upd (Orc.upd o 1 13 4) 0 13 7))), .scr []]) ∧ (Fb t (S7 x5 x6 x7 x8 x9 x10) [.orc (Orc.upd (Orc.upd o 1 13 5) 0 13 7), .scr []] = .ok (.nxt (S7 (V (.tuple [.str "winsorized", .int 3])) (V t) x7 x8 x9 (V (.tuple [.str "winsorized", .int 1])))) [.orc (Orc.tl (Orc.tl (Orc.upd (Orc.upd o 1 13 5) 0 13 7))), .scr []]) ∧ (Fb t (S7 x5 x6 x7 x8 x9 x10) [.orc (Orc.upd (Orc.upd o 1 13 6) 0 13 7), .scr []] = .ok (.nxt (S7 (V (.tuple [.str "winsorized", .int 3])) (V t) x7 x8 x9 (V (.tuple [.str "winsorized", .int 2])))) [.orc (Orc.tl (Orc.tl (Orc.upd (Orc.upd o 1 13 6) 0 13 7))), .scr []]) ∧ (Fb t (S7 x5 x6 x7 x8 x9 x10) [.orc (Orc.upd (Orc.upd o 1 13 7) 0 13 7), .scr []] = .ok (.nxt (S7 (V (.tuple [.str "winsorized", .int 3])) (V t) x7 x8 x9 (V (.tuple [.str "winsorized", .int 3])))) [.orc (Orc.tl (Orc.tl (Orc.upd (Orc.upd o 1 13 7) 0 13 7))), .scr []]) ∧ (Fb t (S7 x5 x6 x7 x8 x9 x10) [.orc (Orc.upd (Orc.upd o 1 13 8) 0 13 7), .scr []] = .ok (.nxt (S7 (V (.tuple [.str "winsorized", .int 3])) (V t) x7 x8 x9 (V (.tuple [.str "pairs", .int 0])))) [.orc (Orc.tl (Orc.tl (Orc.upd (Orc.upd o 1 13 8) 0 13 7))), .scr []]) ∧ (Fb t (S7 x5 x6 x7 x8 x9 x10) [.orc (Orc.upd (Orc.upd o 1 13 9) 0 13 7), .scr []] = .ok (.nxt (S7 (V (.tuple [.str "winsorized", .int 3])) (V t) x7 x8 x9 (V (.tuple [.str "groups", .int 1])))) [.orc (Orc.tl (Orc.tl (Orc.upd (Orc.upd o 1 13 9) 0 13 7))), .scr []]) ∧ (Fb t (S7 x5 x6 x7 x8 x9 x10) [.orc (Orc.upd (Orc.upd o 1 13 10) 0 13 7), .scr []] = .ok (.nxt (S7 (V (.tuple [.str "winsorized", .int 3])) (V t) x7 x8 x9 (V (.tuple [.str "groups", .int 2])))) [.orc (Orc.tl (Orc.tl (Orc.upd (Orc.upd o 1 13 10) 0 13 7))), .scr []]) ∧ (Fb t (S7 x5 x6 x7 x8 x9 x10) [.orc (Orc.upd (Orc.upd o 1 13 11) 0 13 7), .scr []] = .ok (.nxt (S7 (V (.tuple [.str "winsorized", .int 3])) (V t) x7 x8 x9 (V (.tuple [.str "groups", .int 4])))) [.orc (Orc.tl (Orc.tl (Orc.upd (Orc.upd o 1 13 11) 0 13 7))), .scr []]) ∧ (Fb t (S7 x5 x6 x7 x8 x9 x10) [.orc (Orc.upd (Orc.upd o 1 13 12) 0 13 7), .scr []] = .ok (.nxt (S7 (V (.tuple [.str "winsorized", .int 3])) (V t) x7 x8 x9 (V (.tuple [.str "groups", .int 8])))) [.orc (Orc.tl (Orc.tl (Orc.upd (Orc.upd o 1 13 12) 0 13 7))), .scr []]) := ⟨by kernel_rfl, by kernel_rfl, by kernel_rfl, by kernel_rfl, by kernel_rfl, by kernel_rfl, by kernel_rfl, by kernel_rfl, by kernel_rfl, by kernel_rfl, by kernel_rfl, by kernel_rfl, by kernel_rfl⟩
theorem pr7_8 (t : D) (x5 x6 x7 x8 x9 x10 : Option RV) (o : Orc) : (Fb t (S7 x5 x6 x7 x8 x9 x10) [.orc (Orc.upd (Orc.upd o 1 13 0) 0 13 8), .scr []] = .ok (.nxt (S7 (V (.tuple [.str "pairs", .int 0])) (V t) x7 x8 x9 (V (.tuple [.str "trimmed", .int 0])))) [.orc (Orc.tl (Orc.tl (Orc.upd (Orc.upd o 1 13 0) 0 13 8))), .scr []]) ∧ (Fb t (S7 x5 x6 x7 x8 x9 x10) [.orc (Orc.upd (Orc.upd o 1 13 1) 0 13 8), .scr []] = .ok (.nxt (S7 (V (.tuple [.str "pairs", .int 0])) (V t) x7 x8 x9 (V (.tuple [.str "trimmed", .int 1])))) [.orc (Orc.tl (Orc.tl (Orc.upd (Orc.upd o 1 13 1) 0 13 8))), .scr []]) ∧ (Fb t (S7 x5 x6 x7 x8 x9 x10) [.orc (Orc.upd (Orc.upd o 1 13 2) 0 13 8), .scr []] = .ok (.nxt (S7 (V (.tuple [.str "pairs", .int 0])) (V t) x7 x8 x9 (V (.tuple [.str "trimmed", .int 2])))) [.orc (Orc.tl (Orc.tl (Orc.upd (Orc.upd o 1 13 2) 0 13 8))), .scr []]) ∧ (Fb t (S7 x5 x6 x7 x8 x9 x10) [.orc (Orc.upd (Orc.upd o 1 13 3) 0 13 8), .scr []] = .ok (.nxt (S7 (V (.tuple [.str "pairs", .int 0])) (V t) x7 x8 x9 (V (.tuple [.str "trimmed", .int 3])))) [.orc (Orc.tl (Orc.tl (Orc.upd (Orc.upd o 1 13 3) 0 13 8))), .scr []]) ∧ (Fb t (S7 x5 x6 x7 x8 x9 x10) [.orc (Orc.upd (Orc.upd o 1 13 4) 0 13 8), .scr []] = .ok (.nxt (S7 (V (.tuple [.str "pairs", .int 0])) (V t) x7 x8 x9 (V (.tuple [.str "winsorized", .int 0])))) [.orc (Orc.tl (Orc.tl (Orc.upd (Orc.upd o 1 13 4) 0 13 8))), .scr []]) ∧ (Fb t (S7 x5 x6 x7 x8 x9 x10) [.orc (Orc.upd (Orc.upd o 1 13 5) 0 13 8), .scr []] = .ok (.nxt (S7 (V (.tuple [.str "pairs", .int 0])) (V t) x7 x8 x9 (V (.tuple [.str "winsorized", .int 1])))) [.orc (Orc.tl (Orc.tl (Orc.upd (Orc.upd o 1 13 5) 0 13 8))), .scr []]) ∧ (Fb t (S7 x5 x6 x7 x8 x9 x10) [.orc (Orc.upd (Orc.upd o 1 13 6) 0 13 8), .scr []] = .ok (.nxt (S7 (V (.tuple [.str "pairs", .int 0])) (V t) x7 x8 x9 (V (.tuple [.str "winsorized", .int 2])))) [.orc (Orc.tl (Orc.tl (Orc.upd (Orc.upd o 1 13 6) 0 13 8))), .scr []]) ∧ (Fb t (S7 x5 x6 x7 x8 x9 x10) [.orc (Orc.upd (Orc.upd o 1 13 7) 0 13 8), .scr []] = .ok (.nxt (S7 (V (.tuple [.str "pairs", .int 0])) (V t) x7 x8 x9 (V (.tuple [.str "winsorized", .int 3])))) [.orc (Orc.tl (Orc.tl (Orc.upd (Orc.upd o 1 13 7) 0 13 8))), .scr []]) ∧ (Fb t (S7 x5 x6 x7 x8 x9 x10) [.orc (Orc.upd (Orc.upd o 1 13 8) 0 13 8), .scr []] = .ok (.nxt (S7 (V (.tuple [.str "pairs", .int 0])) (V t) x7 x8 x9 (V (.tuple [.str "pairs", .int 0])))) [.orc (Orc.tl (Orc.tl (Orc.upd (Orc.upd o 1 13 8) 0 13 8))), .scr []]) ∧ (Fb t (S7 x5 x6 x7 x8 x9 x10) [.orc (Orc.upd (Orc.upd o 1 13 9) 0 13 8), .scr []] = .ok (.nxt (S7 (V (.tuple [.str "pairs", .int 0])) (V t) x7 x8 x9 (V (.tuple [.str "groups", .int 1])))) [.orc (Orc.tl (Orc.tl (Orc.upd (Orc.upd o 1 13 9) 0 13 8))), .scr []]) ∧ (Fb t (S7 x5 x6 x7 x8 x9 x10) [.orc (Orc.upd (Orc.upd o 1 13 10) 0 13 8), .scr []] = .ok (.nxt (S7 (V (.tuple [.str "pairs", .int 0])) (V t) x7 x8 x9 (V (.tuple [.str "groups", .int 2])))) [.orc (Orc.tl (Orc.tl (Orc.upd (Orc.upd o 1 13 10) 0 13 8))), .scr []]) ∧ (Fb t (S7 x5 x6 x7 x8 x9 x10) [.orc (Orc.upd (Orc.upd o 1 13 11) 0 13 8), .scr []] = .ok (.nxt (S7 (V (.tuple [.str "pairs", .int 0])) (V t) x7 x8 x9 (V (.tuple [.str "groups", .int 4])))) [.orc (Orc.tl (Orc.tl (Orc.upd (Orc.upd o 1 13 11) 0 13 8))), .scr []]) ∧ (Fb t (S7 x5 x6 x7 x8 x9 x10) [.orc (Orc.upd (Orc.upd o 1 13 12) 0 13 8), .scr []] = .ok (.nxt (S7 (V (.tuple [.str "pairs", .int 0])) (V t) x7 x8 x9 (V (.tuple [.str "groups", .int 8])))) [.orc (Orc.tl (Orc.tl (Orc.upd (Orc.upd o 1 13 12) 0 13 8))), .scr []]) := ⟨by kernel_rfl, by kernel_rfl, by kernel_rfl, by kernel_rfl, by kernel_rfl, by kernel_rfl, by kernel_rfl, by kernel_rfl, by kernel_rfl, by kernel_rfl, by kernel_rfl, by kernel_rfl, by kernel_rfl⟩
theorem pr7_9 (t : D) (x5 x6 x7 x8 x9 x10 : Option RV) (o : Orc) : (Fb t (S7 x5 x6 x7 x8 x9 x10) [.orc (Orc.upd (Orc.upd o 1 13 0) 0 13 9), .scr []] = .ok (.nxt (S7 (V (.tuple [.str "groups", .int 1])) (V t) x7 x8 x9 (V (.tuple [.str "trimmed", .int 0])))) [.orc (Orc.tl (Orc.tl (Orc.upd (Orc.upd o 1 13 0) 0 13 9))), .scr []]) ∧ (Fb t (S7 x5 x6 x7 x8 x9 x10) [.orc (Orc.upd (Orc.upd o 1 13 1) 0 13 9), .scr []] = .ok (.nxt (S7 (V (.tuple [.str "groups", .int 1])) (V t) x7 x8 x9 (V (.tuple [.str "trimmed", .int 1])))) [.orc (Orc.tl (Orc.tl (Orc.upd (Orc.upd o 1 13 1) 0 13 9))), .scr []]) ∧ (Fb t (S7 x5 x6 x7 x8 x9 x10) [.orc (Orc.upd (Orc.upd o 1 13 2) 0 13 9), .scr []] = .ok (.nxt (S7 (V (.tuple [.str "groups", .int 1])) (V t) x7 x8 x9 (V (.tuple [.str "trimmed", .int 2])))) [.orc (Orc.tl (Orc.tl (Orc.upd (Orc.upd o 1 13 2) 0 13 9))), .scr []]) ∧ (Fb t (S7 x5 x6 x7 x8 x9 x10) [.orc (Orc.upd (Orc.upd o 1 13 3) 0 13 9), .scr []] = .ok (.nxt (S7 (V (.tuple [.str "groups", .int 1])) (V t) x7 x8 x9 (V (.tuple [.str "trimmed", .int 3])))) [.orc (Orc.tl (Orc.tl (Orc.upd (Orc.upd o 1 13 3) 0 13 9))), .scr []]) ∧ (Fb t (S7 x5 x6 x7 x8 x9 x10) [.orc (Orc.upd (Orc.upd o 1 13 4) 0 13 9), .scr []] = .ok (.nxt (S7 (V (.tuple [.str "groups", .int 1])) (V t) x7 x8 x9 (V (.tuple [.str "winsorized", .int 0])))) [.orc (Orc.tl (Orc.tl (Orc.upd (Orc.upd o 1 13 4) 0 13 9))), .scr []]) ∧ (Fb t (S7 x5 x6 x7 x8 x9 x10) [.orc (Orc.upd (Orc.upd o 1 13 5) 0 13 9), .scr []] = .ok (.nxt (S7 (V (.tuple [.str "groups", .int 1])) (V t) x7 x8 x9 (V (.tuple [.str "winsorized", .int 1])))) [.orc (Orc.tl (Orc.tl (Orc.upd (Orc.upd o 1 13 5) 0 13 9))), .scr []]) ∧ (Fb t (S7 x5 x6 x7 x8 x9 x10) [.orc (Orc.upd (Orc.upd o 1 13 6) 0 13 9), .scr []] = .ok (.nxt (S7 (V (.tuple [.str "groups", .int 1])) (V t) x7 x8 x9 (V (.tuple [.str "winsorized", .int 2])))) [.orc (Orc.tl (Orc.tl (Orc.upd (Orc.upd o 1 13 6) 0 13 9))), .scr []]) ∧ (Fb t (S7 x5 x6 x7 x8 x9 x10) [.orc (Orc.upd (Orc.upd o 1 13 7) 0 13 9), .scr []] = .ok (.nxt (S7 (V (.tuple [.str "groups", .int 1])) (V t) x7 x8 x9 (V (.tuple [.str "winsorized", .int 3])))) [.orc (Orc.tl (Orc.tl (Orc.upd (Orc.upd o 1 13 7) 0 13 9))), .scr []]) ∧ (Fb t (S7 x5 x6 x7 x8 x9 x10) [.orc (Orc.upd (Orc.upd o 1 13 8) 0 13 9), .scr []] = .ok (.nxt (S7 (V (.tuple [.str "groups", .int 1])) (V t) x7 x8 x9 (V (.tuple [.str "pairs", .int 0])))) [.orc (Orc.tl (Orc.tl (Orc.upd (Orc.upd o 1 13 8) 0 13 9))), .scr []]) ∧ (Fb t (S7 x5 x6 x7 x8 x9 x10) [.orc (Orc.upd (Orc.upd o 1 13 9) 0 13 9), .scr []] = .ok (.nxt (S7 (V (.tuple [.str "groups", .int 1])) (V t) x7 x8 x9 (V (.tuple [.str "groups", .int 1])))) [.orc (Orc.tl (Orc.tl (Orc.upd (Orc.upd o 1 13 9) 0 13 9))), .scr []]) ∧ (Fb t (S7 x5 x6 x7 x8 x9 x10) [.orc (Orc.upd (Orc.upd o 1 13 10) 0 13 9), .scr []] = .ok (.nxt (S7 (V (.tuple [.str "groups", .int 1])) (V t) x7 x8 x9 (V (.tuple [.str "groups", .int 2])))) [.orc (Orc.tl (Orc.tl (Orc.upd (Orc.upd o 1 13 10) 0 13 9))), .scr []]) ∧ (Fb t (S7 x5 x6 x7 x8 x9 x10) [.orc (Orc.upd (Orc.upd o 1 13 11) 0 13 9), .scr []] = .ok (.nxt (S7 (V (.tuple [.str "groups", .int 1])) (V t) x7 x8 x9 (V (.tuple [.str "groups", .int 4])))) [.orc (Orc.tl (Orc.tl (Orc.upd (Orc.upd o 1 13 11) 0 13 9))), .scr []]) ∧ (Fb t (S7 x5 x6 x7 x8 x9 x10) [.orc (Orc.upd (Orc.upd o 1 13 12) 0 13 9), .scr []] = .ok (.nxt (S7 (V (.tuple [.str "groups", .int 1])) (V t) x7 x8 x9 (V (.tuple [.str "groups", .int 8])))) [.orc (Orc.tl (Orc.tl (Orc.upd (Orc.upd o 1 13 12) 0 13 9))), .scr []]) := ⟨by kernel_rfl, by kernel_rfl, by kernel_rfl, by kernel_rfl, by kernel_rfl, by kernel_rfl, by kernel_rfl, by kernel_rfl, by kernel_rfl, by kernel_rfl, by kernel_rfl, by kernel_rfl, by kernel_rfl⟩
theorem pr7_10 (t : D) (x5 x6 x7 x8 x9 x10 : Option RV) (o : Orc) : (Fb t (S7 x5 x6 x7 x8 x9 x10) [.orc (Orc.upd (Orc.upd o 1 13 0) 0 13 10), .scr []] = .ok (.nxt (S7 (V (.tuple [.str "groups", .int 2])) (V t) x7 x8 x9 (V (.tuple [.str "trimmed", .int 0])))) [.orc (Orc.tl (Orc.tl (Orc.upd (Orc.upd o 1 13 0) 0 13 10))), .scr []]) ∧ (Fb t (S7 x5 x6 x7 x8 x9 x10) [.orc (Orc.upd (Orc.upd o 1 13 1) 0 13 10), .scr []] = .ok (.nxt (S7 (V (.tuple [.str "groups", .int 2])) (V t) x7 x8 x9 (V (.tuple [.str "trimmed", .int 1])))) [.orc (Orc.tl (Orc.tl (Orc.upd (Orc.upd o 1 13 1) 0 13 10))), .scr []]) ∧ (Fb t (S7 x5 x6 x7 x8 x9 x10) [.orc (Orc.upd (Orc.upd o 1 13 2) 0 13 10), .scr []] = .ok (.nxt (S7 (V (.tuple [.str "groups", .int 2])) (V t) x7 x8 x9 (V (.tuple [.str "trimmed", .int 2])))) [.orc (Orc.tl (Orc.tl (Orc.upd (Orc.upd o 1 13 2) 0 13 10))), .scr []]) ∧ (Fb t (S7 x5 x6 x7 x8 x9 x10) [.orc (Orc.upd (Orc.upd o 1 13 3) 0 13 10), .scr []] = .ok (.nxt (S7 (V (.tuple [.str "groups", .int 2])) (V t) x7 x8 x9 (V (.tuple [.str "trimmed", .int 3])))) [.orc (Orc.tl (Orc.tl (Orc.upd (Orc.upd o 1 13 3) 0 13 10))), .scr []]) ∧ (Fb t (S7 x5 x6 x7 x8 x9 x10) [.orc (Orc.upd (Orc.upd o 1 13 4) 0 13 10), .scr []] = .ok (.nxt (S7 (V (.tuple [.str "groups", .int 2])) (V t) x7 x8 x9 (V (.tuple [.str "winsorized", .int 0])))) [.orc (Orc.tl (Orc.tl (Orc.upd (Orc.upd o 1 13 4) 0 13 10))), .scr []]) ∧ (Fb t (S7 x5 x6 x7 x8 x9 x10) [.orc (Orc.upd (Orc.upd o 1 13 5) 0 13 10), .scr []] = .ok (.nxt (S7 (V (.tuple [.str "groups", .int 2])) (V t) x7 x8 x9 (V (.tuple [.str "winsorized", .int 1])))) [.orc (Orc.tl (Orc.tl (Orc.upd (Orc.upd o 1 13 5) 0 13 10))), .scr []]) ∧ (Fb t (S7 x5 x6 x7 x8 x9 x10) [.orc (Orc.upd (Orc.upd o 1 13 6) 0 13 10), .scr []] = .ok (.nxt (S7 (V (.tuple [.str "groups", .int 2])) (V t) x7 x8 x9 (V (.tuple [.str "winsorized", .int 2])))) [.orc (Orc.tl (Orc.tl (Orc.upd (Orc.upd o 1 13 6) 0 13 10))), .scr []]) ∧ (Fb t (S7 x5 x6 x7 x8 x9 x10) [.orc (Orc.upd (Orc.upd o 1 13 7) 0 13 10), .scr []] = .ok (.nxt (S7 (V (.tuple [.str "groups", .int 2])) (V t) x7 x8 x9 (V (.tuple [.str "winsorized", .int 3])))) [.orc (Orc.tl (Orc.tl (Orc.upd (Orc.upd o 1 13 7) 0 13 10))), .scr []]) ∧ (Fb t (S7 x5 x6 x7 x8 x9 x10) [.orc (Orc.upd (Orc.upd o 1 13 8) 0 13 10), .scr []] = .ok (.nxt (S7 (V (.tuple [.str "groups", .int 2])) (V t) x7 x8 x9 (V (.tuple [.str "pairs", .int 0])))) [.orc (Orc.tl (Orc.tl (Orc.upd (Orc.upd o 1 13 8) 0 13 10))), .scr []]) ∧ (Fb t (S7 x5 x6 x7 x8 x9 x10) [.orc (Orc.upd (Orc.upd o 1 13 9) 0 13 10), .scr []] = .ok (.nxt (S7 (V (.tuple [.str "groups", .int 2])) (V t) x7 x8 x9 (V (.tuple [.str "groups", .int 1])))) [.orc (Orc.tl (Orc.tl (Orc.upd (Orc.upd o 1 13 9) 0 13 10))), .scr []]) ∧ (Fb t (S7 x5 x6 x7 x8 x9 x10) [.orc (Orc.upd (Orc.upd o 1 13 10) 0 13 10), .scr []] = .ok (.nxt (S7 (V (.tuple [.str "groups", .int 2])) (V t) x7 x8 x9 (V (.tuple [.str "groups", .int 2])))) [.orc (Orc.tl (Orc.tl (Orc.upd (Orc.upd o 1 13 10) 0 13 10))), .scr []]) ∧ (Fb t (S7 x5 x6 x7 x8 x9 x10) [.orc (Orc.upd (Orc.upd o 1 13 11) 0 13 10), .scr []] = .ok (.nxt (S7 (V (.tuple [.str "groups", .int 2])) (V t) x7 x8 x9 (V (.tuple [.str "groups", .int 4])))) [.orc (Orc.tl (Orc.tl (Orc.upd (Orc.upd o 1 13 11) 0 13 10))), .scr []]) ∧ (Fb t (S7 x5 x6 x7 x8 x9 x10) [.orc (Orc.upd (Orc.upd o 1 13 12) 0 13 10), .scr []] = .ok (.nxt (S7 (V (.tuple [.str "groups", .int 2])) (V t) x7 x8 x9 (V (.tuple [.str "groups", .int 8])))) [.orc (Orc.tl (Orc.tl (Orc.upd (Orc.upd o 1 13 12) 0 13 10))), .scr []]) := ⟨by kernel_rfl, by kernel_rfl, by kernel_rfl, by kernel_rfl, by kernel_rfl, by kernel_rfl, by kernel_rfl, by kernel_rfl, by kernel_rfl, by kernel_rfl, by kernel_rfl, by kernel_rfl, by kernel_rfl⟩
theorem pr7_11 (t : D) (x5 x6 x7 x8 x9 x10 : Option RV) (o : Orc) : (Fb t (S7 x5 x6 x7 x8 x9 x10) [.orc (Orc.upd (Orc.upd o 1 13 0) 0 13 11), .scr []] = .ok (.nxt (S7 (V (.tuple [.str "groups", .int 4])) (V t) x7 x8 x9 (V (.tuple [.str "trimmed", .int 0])))) [.orc (Orc.tl (Orc.tl (Orc.upd (Orc.upd o 1 13 0) 0 13 11))), .scr []]) ∧ (Fb t (S7 x5 x6 x7 x8 x9 x10) [.orc (Orc.upd (Orc.upd o 1 13 1) 0 13 11), .scr []] = .ok (.nxt (S7 (V (.tuple [.str "groups", .int 4])) (V t) x7 x8 x9 (V (.tuple [.str "trimmed", .int 1])))) [.orc (Orc.tl (Orc.tl (Orc.upd (Orc.upd o 1 13 1) 0 13 11))), .scr []]) ∧ (Fb t (S7 x5 x6 x7 x8 x9 x10) [.orc (Orc.upd (Orc.upd o 1 13 2) 0 13 11), .scr []] = .ok (.nxt (S7 (V (.tuple [.str "groups", .int 4])) (V t) x7 x8 x9 (V (.tuple [.str "trimmed", .int 2])))) [.orc (Orc.tl (Orc.tl (Orc.upd (Orc.upd o 1 13 2) 0 13 11))), .scr []]) ∧ (Fb t (S7 x5 x6 x7 x8 x9 x10) [.orc (Orc.upd (Orc.upd o 1 13 3) 0 13 11), .scr []] = .ok (.nxt (S7 (V (.tuple [.str "groups", .int 4])) (V t) x7 x8 x9 (V (.tuple [.str "trimmed", .int 3])))) [.orc (Orc.tl (Orc.tl (Orc.upd (Orc.upd o 1 13 3) 0 13 11))), .scr []]) ∧ (Fb t (S7 x5 x6 x7 x8 x9 x10) [.orc (Orc.upd (Orc.upd o 1 13 4) 0 13 11), .scr []] = .ok (.nxt (S7 (V (.tuple [.str "groups", .int 4])) (V t) x7 x8 x9 (V (.tuple [.str "winsorized", .int 0])))) [.orc (Orc.tl (Orc.tl (Orc.upd (Orc.upd o 1 13 4) 0 13 11))), .scr []]) ∧ (Fb t (S7 x5 x6 x7 x8 x9 x10) [.orc (Orc.upd (Orc.upd o 1 13 5) 0 13 11), .scr []] = .ok (.nxt (S7 (V (.tuple [.str "groups", .int 4])) (V t) x7 x8 x9 (V (.tuple [.str "winsorized", .int 1])))) [.orc (Orc.tl (Orc.tl (Orc.upd (Orc.upd o 1 13 5) 0 13 11))), .scr []]) ∧ (Fb t (S7 x5 x6 x7 x8 x9 x10) [.orc (Orc.upd (Orc.upd o 1 13 6) 0 13 11), .scr []] = .ok (.nxt (S7 (V (.tuple [.str "groups", .int 4])) (V t) x7 x8 x9 (V (.tuple [.str "winsorized", .int 2])))) [.orc (Orc.tl (Orc.tl (Orc.upd (Orc.upd o 1 13 6) 0 13 11))), .scr []]) ∧ (Fb t (S7 x5 x6 x7 x8 x9 x10) [.orc (Orc.upd (Orc.upd o 1 13 7) 0 13 11), .scr []] = .ok (.nxt (S7 (V (.tuple [.str "groups", .int 4])) (V t) x7 x8 x9 (V (.tuple [.str "winsorized", .int 3])))) [.orc (Orc.tl (Orc.tl (Orc.upd (Orc.upd o 1 13 7) 0 13 11))), .scr []]) ∧ (Fb t (S7 x5 x6 x7 x8 x9 x10) [.orc (Orc.upd (Orc.upd o 1 13 8) 0 13 11), .scr []] = .ok (.nxt (S7 (V (.tuple [.str "groups", .int 4])) (V t) x7 x8 x9 (V (.tuple [.str "pairs", .int 0])))) [.orc (Orc.tl (Orc.tl (Orc.upd (Orc.upd o 1 13 8) 0 13 11))), .scr []]) ∧ (Fb t (S7 x5 x6 x7 x8 x9 x10) [.orc (Orc.upd (Orc.upd o 1 13 9) 0 13 11), .scr []] = .ok (.nxt (S7 (V (.tuple [.str "groups", .int 4])) (V t) x7 x8 x9 (V (.tuple [.str "groups", .int 1])))) [.orc (Orc.tl (Orc.tl (Orc.upd (Orc.upd o 1 13 9) 0 13 11))), .scr []]) ∧ (Fb t (S7 x5 x6 x7 x8 x9 x10) [.orc (Orc.upd (Orc.upd o 1 13 10) 0 13 11), .scr []] = .ok (.nxt (S7 (V (.tuple [.str "groups", .int 4])) (V t) x7 x8 x9 (V (.tuple [.str "groups", .int 2])))) [.orc (Orc.tl (Orc.tl (Orc.upd (Orc.upd o 1 13 10) 0 13 11))), .scr []]) ∧ (Fb t (S7 x5 x6 x7 x8 x9 x10) [.orc (Orc.upd (Orc.upd o 1 13 11) 0 13 11), .scr []] = .ok (.nxt (S7 (V (.tuple [.str "groups", .int 4])) (V t) x7 x8 x9 (V (.tuple [.str "groups", .int 4])))) [.orc (Orc.tl (Orc.tl (Orc.upd (Orc.upd o 1 13 11) 0 13 11))), .scr []]) ∧ (Fb t (S7 x5 x6 x7 x8 x9 x10) [.orc (Orc.upd (Orc.upd o 1 13 12) 0 13 11), .scr []] = .ok (.nxt (S7 (V (.tuple [.str "groups", .int 4])) (V t) x7 x8 x9 (V (.tuple [.str "groups", .int 8])))) [.orc (Orc.tl (Orc.tl (Orc.upd (Orc.upd o 1 13 12) 0 13 11))), .scr []]) := ⟨by kernel_rfl, by kernel_rfl, by kernel_rfl, by kernel_rfl, by kernel_rfl, by kernel_rfl, by kernel_rfl, by kernel_rfl, by kernel_rfl, by kernel_rfl, by kernel_rfl, by kernel_rfl, by kernel_rfl⟩
theorem pr7_12 (t : D) (x5 x6 x7 x8 x9 x10 : Option RV) (o : Orc) : (Fb t (S7 x5 x6 x7 x8 x9 x10) [.orc (Orc.upd (Orc.upd o 1 13 0) 0 13 12), .scr []] = .ok (.nxt (S7 (V (.tuple [.str "groups", .int 8])) (V t) x7 x8 x9 (V (.tuple [.str "trimmed", .int 0])))) [.orc (Orc.tl (Orc.tl (Orc.upd (Orc.upd o 1 13 0) 0 13 12))), .scr []]) ∧ (Fb t (S7 x5 x6 x7 x8 x9 x10) [.orc (Orc.upd (Orc.upd o 1 13 1) 0 13 12), .scr []] = .ok (.nxt (S7 (V (.tuple [.str "groups", .int 8])) (V t) x7 x8 x9 (V (.tuple [.str "trimmed", .int 1])))) [.orc (Orc.tl (Orc.tl (Orc.upd (Orc.upd o 1 13 1) 0 13 12))), .scr []]) ∧ (Fb t (S7 x5 x6 x7 x8 x9 x10) [.orc (Orc.upd (Orc.upd o 1 13 2) 0 13 12), .scr []] = .ok (.nxt (S7 (V (.tuple [.str "groups", .int 8])) (V t) x7 x8 x9 (V (.tuple [.str "trimmed", .int 2])))) [.orc (Orc.tl (Orc.tl (Orc.upd (Orc.upd o 1 13 2) 0 13 12))), .scr []]) ∧ (Fb t (S7 x5 x6 x7 x8 x9 x10) [.orc (Orc.upd (Orc.upd o 1 13 3) 0 13 12), .scr []] = .ok (.nxt (S7 (V (.tuple [.str "groups", .int 8])) (V t) x7 x8 x9 (V (.tuple [.str "trimmed", .int 3])))) [.orc (Orc.tl (Orc.tl (Orc.upd (Orc.upd o 1 13 3) 0 13 12))), .scr []]) ∧ (Fb t (S7 x5 x6 x7 x8 x9 x10) [.orc (Orc.upd (Orc.upd o 1 13 4) 0 13 12), .scr []] = .ok (.nxt (S7 (V (.tuple [.str "groups", .int 8])) (V t) x7 x8 x9 (V (.tuple [.str "winsorized", .int 0])))) [.orc (Orc.tl (Orc.tl (Orc.upd (Orc.upd o 1 13 4) 0 13 12))), .scr []]) ∧ (Fb t (S7 x5 x6 x7 x8 x9 x10) [.orc (Orc.upd (Orc.upd o 1 13 5) 0 13 12), .scr []] = .ok (.nxt (S7 (V (.tuple [.str "groups", .int 8])) (V t) x7 x8 x9 (V (.tuple [.str "winsorized", .int 1])))) [.orc (Orc.tl (Orc.tl (Orc.upd (Orc.upd o 1 13 5) 0 13 12))), .scr []]) ∧ (Fb t (S7 x5 x6 x7 x8 x9 x10) [.orc (Orc.upd (Orc.upd o 1 13 6) 0 13 12), .scr []] = .ok (.nxt (S7 (V (.tuple [.str "groups", .int 8])) (V t) x7 x8 x9 (V (.tuple [.str "winsorized", .int 2])))) [.orc (Orc.tl (Orc.tl (Orc.upd (Orc.upd o 1 13 6) 0 13 12))), .scr []]) ∧ (Fb t (S7 x5 x6 x7 x8 x9 x10) [.orc (Orc.upd (Orc.upd o 1 13 7) 0 13 12), .scr []] = .ok (.nxt (S7 (V (.tuple [.str "groups", .int 8])) (V t) x7 x8 x9 (V (.tuple [.str "winsorized", .int 3])))) [.orc (Orc.tl (Orc.tl (Orc.upd (Orc.upd o 1 13 7) 0 13 12))), .scr []]) ∧ (Fb t (S7 x5 x6 x7 x8 x9 x10) [.orc (Orc.upd (Orc.upd o 1 13 8) 0 13 12), .scr []] = .ok (.nxt (S7 (V (.tuple [.str "groups", .int 8])) (V t) x7 x8 x9 (V (.tuple [.str "pairs", .int 0])))) [.orc (Orc.tl (Orc.tl (Orc.upd (Orc.upd o 1 13 8) 0 13 12))), .scr []]) ∧ (Fb t (S7 x5 x6 x7 x8 x9 x10) [.orc (Orc.upd (Orc.upd o 1 13 9) 0 13 12), .scr []] = .ok (.nxt (S7 (V (.tuple [.str "groups", .int 8])) (V t) x7 x8 x9 (V (.tuple [.str "groups", .int 1])))) [.orc (Orc.tl (Orc.tl (Orc.upd (Orc.upd o 1 13 9) 0 13 12))), .scr []]) ∧ (Fb t (S7 x5 x6 x7 x8 x9 x10) [.orc (Orc.upd (Orc.upd o 1 13 10) 0 13 12), .scr []] = .ok (.nxt (S7 (V (.tuple [.str "groups", .int 8])) (V t) x7 x8 x9 (V (.tuple [.str "groups", .int 2])))) [.orc (Orc.tl (Orc.tl (Orc.upd (Orc.upd o 1 13 10) 0 13 12))), .scr []]) ∧ (Fb t (S7 x5 x6 x7 x8 x9 x10) [.orc (Orc.upd (Orc.upd o 1 13 11) 0 13 12), .scr []] = .ok (.nxt (S7 (V (.tuple [.str "groups", .int 8])) (V t) x7 x8 x9 (V (.tuple [.str "groups", .int 4])))) [.orc (Orc.tl (Orc.tl (Orc.upd (Orc.upd o 1 13 11) 0 13 12))), .scr []]) ∧ (Fb t (S7 x5 x6 x7 x8 x9 x10) [.orc (Orc.upd (Orc.upd o 1 13 12) 0 13 12), .scr []] = .ok (.nxt (S7 (V (.tuple [.str "groups", .int 8])) (V t) x7 x8 x9 (V (.tuple [.str "groups", .int 8])))) [.orc (Orc.tl (Orc.tl (Orc.upd (Orc.upd o 1 13 12) 0 13 12))), .scr []]) := ⟨by kernel_rfl, by kernel_rfl, by kernel_rfl, by kernel_rfl, by kernel_rfl, by kernel_rfl, by kernel_rfl, by kernel_rfl, by kernel_rfl, by kernel_rfl, by kernel_rfl, by kernel_rfl, by kernel_rfl⟩
theorem pr7 (t : D) (x5 x6 x7 x8 x9 x10 : Option RV) (o : Orc) (ho : OkO o) : ∃ y5 y10, Fb t (S7 x5 x6 x7 x8 x9 x10) [.orc o, .scr []] = .ok (.nxt (S7 y5 (V t) x7 x8 x9 y10)) [.orc (Orc.tl (Orc.tl o)), .scr []] := by
  have h0 := ho 0 13 (by decide)
  have h1 := ho 1 13 (by decide)
  have e := Orc.upd_self o 1 13
  have e2 := Orc.upd_self o 0 13
  generalize o 0 13 = a at h0 e2
  generalize o 1 13 = b at h1 e
  have ea : a = 0 ∨ a = 1 ∨ a = 2 ∨ a = 3 ∨ a = 4 ∨ a = 5 ∨ a = 6 ∨ a = 7 ∨ a = 8 ∨ a = 9 ∨ a = 10 ∨ a = 11 ∨ a = 12 := by omega
  have eb : b = 0 ∨ b = 1 ∨ b = 2 ∨ b = 3 ∨ b = 4 ∨ b = 5 ∨ b = 6 ∨ b = 7 ∨ b = 8 ∨ b = 9 ∨ b = 10 ∨ b = 11 ∨ b = 12 := by omega
  rcases ea with rfl | rfl | rfl | rfl | rfl | rfl | rfl | rfl | rfl | rfl | rfl | rfl | rfl
  · obtain ⟨k0, k1, k2, k3, k4, k5, k6, k7, k8, k9, k10, k11, k12⟩ := pr7_0 t x5 x6 x7 x8 x9 x10 o
    rcases eb with rfl | rfl | rfl | rfl | rfl | rfl | rfl | rfl | rfl | rfl | rfl | rfl | rfl
    · rw [e, e2] at k0; exact ⟨_, _, k0⟩
    · rw [e, e2] at k1; exact ⟨_, _, k1⟩
    · rw [e, e2] at k2; exact ⟨_, _, k2⟩
    · rw [e, e2] at k3; exact ⟨_, _, k3⟩
    · rw [e, e2] at k4; exact ⟨_, _, k4⟩
    · rw [e, e2] at k5; exact ⟨_, _, k5⟩
    · rw [e, e2] at k6; exact ⟨_, _, k6⟩
    · rw [e, e2] at k7; exact ⟨_, _, k7⟩
    · rw [e, e2] at k8; exact ⟨_, _, k8⟩
    · rw [e, e2] at k9; exact ⟨_, _, k9⟩
    · rw [e, e2] at k10; exact ⟨_, _, k10⟩
    · rw [e, e2] at k11; exact ⟨_, _, k11⟩
    · rw [e, e2] at k12; exact ⟨_, _, k12⟩
  · obtain ⟨k0, k1, k2, k3, k4, k5, k6, k7, k8, k9, k10, k11, k12⟩ := pr7_1 t x5 x6 x7 x8 x9 x10 o
    rcases eb with rfl | rfl | rfl | rfl | rfl | rfl | rfl | rfl | rfl | rfl | rfl | rfl | rfl
    · rw [e, e2] at k0; exact ⟨_, _, k0⟩
    · rw [e, e2] at k1; exact ⟨_, _, k1⟩
    · rw [e, e2] at k2; exact ⟨_, _, k2⟩
    · rw [e, e2] at k3; exact ⟨_, _, k3⟩
    · rw [e, e2] at k4; exact ⟨_, _, k4⟩
    · rw [e, e2] at k5; exact ⟨_, _, k5⟩
    · rw [e, e2] at k6; exact ⟨_, _, k6⟩
    · rw [e, e2] at k7; exact ⟨_, _, k7⟩
    · rw [e, e2] at k8; exact ⟨_, _, k8⟩
    · rw [e, e2] at k9; exact ⟨_, _, k9⟩
    · rw [e, e2] at k10; exact ⟨_, _, k10⟩
    · rw [e, e2] at k11; exact ⟨_, _, k11⟩
    · rw [e, e2] at k12; exact ⟨_, _, k12⟩
  · obtain ⟨k0, k1, k2, k3, k4, k5, k6, k7, k8, k9, k10, k11, k12⟩ := pr7_2 t x5 x6 x7 x8 x9 x10 o
    rcases eb with rfl | rfl | rfl | rfl | rfl | rfl | rfl | rfl | rfl | rfl | rfl | rfl | rfl
    · rw [e, e2] at k0; exact ⟨_, _, k0⟩
    · rw [e, e2] at k1; exact ⟨_, _, k1⟩
    · rw [e, e2] at k2; exact ⟨_, _, k2⟩
    · rw [e, e2] at k3; exact ⟨_, _, k3⟩
    · rw [e, e2] at k4; exact ⟨_, _, k4⟩
    · rw [e, e2] at k5; exact ⟨_, _, k5⟩
    · rw [e, e2] at k6; exact ⟨_, _, k6⟩
    · rw [e, e2] at k7; exact ⟨_, _, k7⟩
    · rw [e, e2] at k8; exact ⟨_, _, k8⟩
    · rw [e, e2] at k9; exact ⟨_, _, k9⟩
    · rw [e, e2] at k10; exact ⟨_, _, k10⟩
    · rw [e, e2] at k11; exact ⟨_, _, k11⟩
    · rw [e, e2] at k12; exact ⟨_, _, k12⟩
  · obtain ⟨k0, k1, k2, k3, k4, k5, k6, k7, k8, k9, k10, k11, k12⟩ := pr7_3 t x5 x6 x7 x8 x9 x10 o
    rcases eb with rfl | rfl | rfl | rfl | rfl | rfl | rfl | rfl | rfl | rfl | rfl | rfl | rfl
    · rw [e, e2] at k0; exact ⟨_, _, k0⟩
    · rw [e, e2] at k1; exact ⟨_, _, k1⟩
    · rw [e, e2] at k2; exact ⟨_, _, k2⟩
    · rw [e, e2] at k3; exact ⟨_, _, k3⟩
    · rw [e, e2] at k4; exact ⟨_, _, k4⟩
    · rw [e, e2] at k5; exact ⟨_, _, k5⟩
    · rw [e, e2] at k6; exact ⟨_, _, k6⟩
    · rw [e, e2] at k7; exact ⟨_, _, k7⟩
    · rw [e, e2] at k8; exact ⟨_, _, k8⟩
    · rw [e, e2] at k9; exact ⟨_, _, k9⟩
    · rw [e, e2] at k10; exact ⟨_, _, k10⟩
    · rw [e, e2] at k11; exact ⟨_, _, k11⟩
    · rw [e, e2] at k12; exact ⟨_, _, k12⟩
  · obtain ⟨k0, k1, k2, k3, k4, k5, k6, k7, k8, k9, k10, k11, k12⟩ := pr7_4 t x5 x6 x7 x8 x9 x10 o
    rcases eb with rfl | rfl | rfl | rfl | rfl | rfl | rfl | rfl | rfl | rfl | rfl | rfl | rfl
    · rw [e, e2] at k0; exact ⟨_, _, k0⟩
    · rw [e, e2] at k1; exact ⟨_, _, k1⟩
    · rw [e, e2] at k2; exact ⟨_, _, k2⟩
    · rw [e, e2] at k3; exact ⟨_, _, k3⟩
    · rw [e, e2] at k4; exact ⟨_, _, k4⟩
    · rw [e, e2] at k5; exact ⟨_, _, k5⟩
    · rw [e, e2] at k6; exact ⟨_, _, k6⟩
    · rw [e, e2] at k7; exact ⟨_, _, k7⟩
    · rw [e, e2] at k8; exact ⟨_, _, k8⟩
    · rw [e, e2] at k9; exact ⟨_, _, k9⟩
    · rw [e, e2] at k10; exact ⟨_, _, k10⟩
    · rw [e, e2] at k11; exact ⟨_, _, k11⟩
    · rw [e, e2] at k12; exact ⟨_, _, k12⟩
  · obtain ⟨k0, k1, k2, k3, k4, k5, k6, k7, k8, k9, k10, k11, k12⟩ := pr7_5 t x5 x6 x7 x8 x9 x10 o
    rcases eb with rfl | rfl | rfl | rfl | rfl | rfl | rfl | rfl | rfl | rfl | rfl | rfl | rfl
    · rw [e, e2] at k0; exact ⟨_, _, k0⟩
    · rw [e, e2] at k1; exact ⟨_, _, k1⟩
    · rw [e, e2] at k2; exact ⟨_, _, k2⟩
    · rw [e, e2] at k3; exact ⟨_, _, k3⟩
    · rw [e, e2] at k4; exact ⟨_, _, k4⟩
    · rw [e, e2] at k5; exact ⟨_, _, k5⟩
    · rw [e, e2] at k6; exact ⟨_, _, k6⟩
    · rw [e, e2] at k7; exact ⟨_, _, k7⟩
    · rw [e, e2] at k8; exact ⟨_, _, k8⟩
    · rw [e, e2] at k9; exact ⟨_, _, k9⟩
    · rw [e, e2] at k10; exact ⟨_, _, k10⟩
    · rw [e, e2] at k11; exact ⟨_, _, k11⟩
    · rw [e, e2] at k12; exact ⟨_, _, k12⟩
  · obtain ⟨k0, k1, k2, k3, k4, k5, k6, k7, k8, k9, k10, k11, k12⟩ := pr7_6 t x5 x6 x7 x8 x9 x10 o
    rcases eb with rfl | rfl | rfl | rfl | rfl | rfl | rfl | rfl | rfl | rfl | rfl | rfl | rfl
    · rw [e, e2] at k0; exact ⟨_, _, k0⟩
    · rw [e, e2] at k1; exact ⟨_, _, k1⟩
    · rw [e, e2] at k2; exact ⟨_, _, k2⟩
    · rw [e, e2] at k3; exact ⟨_, _, k3⟩
    · rw [e, e2] at k4; exact ⟨_, _, k4⟩
    · rw [e, e2] at k5; exact ⟨_, _, k5⟩
    · rw [e, e2] at k6; exact ⟨_, _, k6⟩
    · rw [e, e2] at k7; exact ⟨_, _, k7⟩
    · rw [e, e2] at k8; exact ⟨_, _, k8⟩
    · rw [e, e2] at k9; exact ⟨_, _, k9⟩
    · rw [e, e2] at k10; exact ⟨_, _, k10⟩
    · rw [e, e2] at k11; exact ⟨_, _, k11⟩
    · rw [e, e2] at k12; exact ⟨_, _, k12⟩
  · obtain ⟨k0, k1, k2, k3, k4, k5, k6, k7, k8, k9, k10, k11, k12⟩ := pr7_7 t x5 x6 x7 x8 x9 x10 o
    rcases eb with rfl | rfl | rfl | rfl | rfl | rfl | rfl | rfl | rfl | rfl | rfl | rfl | rfl
    · rw [e, e2] at k0; exact ⟨_, _, k0⟩
    · rw [e, e2] at k1; exact ⟨_, _, k1⟩
    · rw [e, e2] at k2; exact ⟨_, _, k2⟩
    · rw [e, e2] at k3; exact ⟨_, _, k3⟩
    · rw [e, e2] at k4; exact ⟨_, _, k4⟩
    · rw [e, e2] at k5; exact ⟨_, _, k5⟩
    · rw [e, e2] at k6; exact ⟨_, _, k6⟩
    · rw [e, e2] at k7; exact ⟨_, _, k7⟩
    · rw [e, e2] at k8; exact ⟨_, _, k8⟩
    · rw [e, e2] at k9; exact ⟨_, _, k9⟩
    · rw [e, e2] at k10; exact ⟨_, _, k10⟩
    · rw [e, e2] at k11; exact ⟨_, _, k11⟩
    · rw [e, e2] at k12; exact ⟨_, _, k12⟩
  · obtain ⟨k0, k1, k2, k3, k4, k5, k6, k7, k8, k9, k10, k11, k12⟩ := pr7_8 t x5 x6 x7 x8 x9 x10 o
    rcases eb with rfl | rfl | rfl | rfl | rfl | rfl | rfl | rfl | rfl | rfl | rfl | rfl | rfl
    · rw [e, e2] at k0; exact ⟨_, _, k0⟩
    · rw [e, e2] at k1; exact ⟨_, _, k1⟩
    · rw [e, e2] at k2; exact ⟨_, _, k2⟩
    · rw [e, e2] at k3; exact ⟨_, _, k3⟩
    · rw [e, e2] at k4; exact ⟨_, _, k4⟩
    · rw [e, e2] at k5; exact ⟨_, _, k5⟩
    · rw [e, e2] at k6; exact ⟨_, _, k6⟩
    · rw [e, e2] at k7; exact ⟨_, _, k7⟩
    · rw [e, e2] at k8; exact ⟨_, _, k8⟩
    · rw [e, e2] at k9; exact ⟨_, _, k9⟩
    · rw [e, e2] at k10; exact ⟨_, _, k10⟩
    · rw [e, e2] at k11; exact ⟨_, _, k11⟩
    · rw [e, e2] at k12; exact ⟨_, _, k12⟩
  · obtain ⟨k0, k1, k2, k3, k4, k5, k6, k7, k8, k9, k10, k11, k12⟩ := pr7_9 t x5 x6 x7 x8 x9 x10 o
    rcases eb with rfl | rfl | rfl | rfl | rfl | rfl | rfl | rfl | rfl | rfl | rfl | rfl | rfl
    · rw [e, e2] at k0; exact ⟨_, _, k0⟩
    · rw [e, e2] at k1; exact ⟨_, _, k1⟩
    · rw [e, e2] at k2; exact ⟨_, _, k2⟩
    · rw [e, e2] at k3; exact ⟨_, _, k3⟩
    · rw [e, e2] at k4; exact ⟨_, _, k4⟩
    · rw [e, e2] at k5; exact ⟨_, _, k5⟩
    · rw [e, e2] at k6; exact ⟨_, _, k6⟩
    · rw [e, e2] at k7; exact ⟨_, _, k7⟩
    · rw [e, e2] at k8; exact ⟨_, _, k8⟩
    · rw [e, e2] at k9; exact ⟨_, _, k9⟩
    · rw [e, e2] at k10; exact ⟨_, _, k10⟩
    · rw [e, e2] at k11; exact ⟨_, _, k11⟩
    · rw [e, e2] at k12; exact ⟨_, _, k12⟩
  · obtain ⟨k0, k1, k2, k3, k4, k5, k6, k7, k8, k9, k10, k11, k12⟩ := pr7_10 t x5 x6 x7 x8 x9 x10 o
    rcases eb with rfl | rfl | rfl | rfl | rfl | rfl | rfl | rfl | rfl | rfl | rfl | rfl | rfl
    · rw [e, e2] at k0; exact ⟨_, _, k0⟩
    · rw [e, e2] at k1; exact ⟨_, _, k1⟩
    · rw [e, e2] at k2; exact ⟨_, _, k2⟩
    · rw [e, e2] at k3; exact ⟨_, _, k3⟩
    · rw [e, e2] at k4; exact ⟨_, _, k4⟩
    · rw [e, e2] at k5; exact ⟨_, _, k5⟩
    · rw [e, e2] at k6; exact ⟨_, _, k6⟩
    · rw [e, e2] at k7; exact ⟨_, _, k7⟩
    · rw [e, e2] at k8; exact ⟨_, _, k8⟩
    · rw [e, e2] at k9; exact ⟨_, _, k9⟩
    · rw [e, e2] at k10; exact ⟨_, _, k10⟩
    · rw [e, e2] at k11; exact ⟨_, _, k11⟩
    · rw [e, e2] at k12; exact ⟨_, _, k12⟩
  · obtain ⟨k0, k1, k2, k3, k4, k5, k6, k7, k8, k9, k10, k11, k12⟩ := pr7_11 t x5 x6 x7 x8 x9 x10 o
    rcases eb with rfl | rfl | rfl | rfl | rfl | rfl | rfl | rfl | rfl | rfl | rfl | rfl | rfl
    · rw [e, e2] at k0; exact ⟨_, _, k0⟩
    · rw [e, e2] at k1; exact ⟨_, _, k1⟩
    · rw [e, e2] at k2; exact ⟨_, _, k2⟩
    · rw [e, e2] at k3; exact ⟨_, _, k3⟩
    · rw [e, e2] at k4; exact ⟨_, _, k4⟩
    · rw [e, e2] at k5; exact ⟨_, _, k5⟩
    · rw [e, e2] at k6; exact ⟨_, _, k6⟩
    · rw [e, e2] at k7; exact ⟨_, _, k7⟩
    · rw [e, e2] at k8; exact ⟨_, _, k8⟩
    · rw [e, e2] at k9; exact ⟨_, _, k9⟩
    · rw [e, e2] at k10; exact ⟨_, _, k10⟩
    · rw [e, e2] at k11; exact ⟨_, _, k11⟩
    · rw [e, e2] at k12; exact ⟨_, _, k12⟩
  · obtain ⟨k0, k1, k2, k3, k4, k5, k6, k7, k8, k9, k10, k11, k12⟩ := pr7_12 t x5 x6 x7 x8 x9 x10 o
    rcases eb with rfl | rfl | rfl | rfl | rfl | rfl | rfl | rfl | rfl | rfl | rfl | rfl | rfl
    · rw [e, e2] at k0; exact ⟨_, _, k0⟩
    · rw [e, e2] at k1; exact ⟨_, _, k1⟩
    · rw [e, e2] at k2; exact ⟨_, _, k2⟩
    · rw [e, e2] at k3; exact ⟨_, _, k3⟩
    · rw [e, e2] at k4; exact ⟨_, _, k4⟩
    · rw [e, e2] at k5; exact ⟨_, _, k5⟩
    · rw [e, e2] at k6; exact ⟨_, _, k6⟩
    · rw [e, e2] at k7; exact ⟨_, _, k7⟩
    · rw [e, e2] at k8; exact ⟨_, _, k8⟩
    · rw [e, e2] at k9; exact ⟨_, _, k9⟩
    · rw [e, e2] at k10; exact ⟨_, _, k10⟩
    · rw [e, e2] at k11; exact ⟨_, _, k11⟩
    · rw [e, e2] at k12; exact ⟨_, _, k12⟩
theorem sfs7 (x5 x6 x9 x10 : Option RV) (o : Orc) : (execs (ex exF G) (B.drop 9) (S7 x5 x6 none none x9 x10) [.orc (Orc.upd o 0 9 0), .scr []] = .ok (.ret (.val (.bool true))) [.orc (Orc.tl (Orc.upd o 0 9 0)), .scr []]) ∧ (execs (ex exF G) (B.drop 9) (S7 x5 x6 none none x9 x10) [.orc (Orc.upd o 0 9 1), .scr []] = .ok (.ret (.val (.bool true))) [.orc (Orc.tl (Orc.upd o 0 9 1)), .scr []]) ∧ (execs (ex exF G) (B.drop 9) (S7 x5 x6 none none x9 x10) [.orc (Orc.upd o 0 9 2), .scr []] = .ok (.ret (.val (.bool true))) [.orc (Orc.tl (Orc.upd o 0 9 2)), .scr []]) ∧ (execs (ex exF G) (B.drop 9) (S7 x5 x6 none none x9 x10) [.orc (Orc.upd o 0 9 3), .scr []] = .ok (.ret (.val (.bool true))) [.orc (Orc.tl (Orc.upd o 0 9 3)), .scr []]) ∧ (execs (ex exF G) (B.drop 9) (S7 x5 x6 none none x9 x10) [.orc (Orc.upd o 0 9 4), .scr []] = .ok (.ret (.val (.bool true))) [.orc (Orc.tl (Orc.upd o 0 9 4)), .scr []]) ∧ (execs (ex exF G) (B.drop 9) (S7 x5 x6 none none x9 x10) [.orc (Orc.upd o 0 9 5), .scr []] = .ok (.ret (.val (.bool true))) [.orc (Orc.tl (Orc.upd o 0 9 5)), .scr []]) ∧ (execs (ex exF G) (B.drop 9) (S7 x5 x6 none none x9 x10) [.orc (Orc.upd o 0 9 6), .scr []] = .ok (.ret (.val (.bool true))) [.orc (Orc.tl (Orc.upd o 0 9 6)), .scr []]) ∧ (execs (ex exF G) (B.drop 9) (S7 x5 x6 none none x9 x10) [.orc (Orc.upd o 0 9 7), .scr []] = .ok (.ret (.val (.bool true))) [.orc (Orc.tl (Orc.upd o 0 9 7)), .scr []]) ∧ (execs (ex exF G) (B.drop 9) (S7 x5 x6 none none x9 x10) [.orc (Orc.upd o 0 9 8), .scr []] = .ok (.ret (.val (.bool true))) [.orc (Orc.tl (Orc.upd o 0 9 8)), .scr []]) := ⟨by kernel_rfl, by kernel_rfl, by kernel_rfl, by kernel_rfl, by kernel_rfl, by kernel_rfl, by kernel_rfl, by kernel_rfl, by kernel_rfl⟩
theorem sf7 (x5 x6 x9 x10 : Option RV) (o : Orc) (ho : OkO o) : execs (ex exF G) (B.drop 9) (S7 x5 x6 none none x9 x10) [.orc o, .scr []] = .ok (.ret (.val (.bool true))) [.orc (Orc.tl o), .scr []] := by
  have h0 := ho 0 9 (by decide)
  have e := Orc.upd_self o 0 9
  generalize o 0 9 = a at h0 e
  have ea : a = 0 ∨ a = 1 ∨ a = 2 ∨ a = 3 ∨ a = 4 ∨ a = 5 ∨ a = 6 ∨ a = 7 ∨ a = 8 := by omega
  obtain ⟨k0, k1, k2, k3, k4, k5, k6, k7, k8⟩ := sfs7 x5 x6 x9 x10 o
  rcases ea with rfl | rfl | rfl | rfl | rfl | rfl | rfl | rfl | rfl
  · rw [e] at k0; exact k0
  · rw [e] at k1; exact k1
  · rw [e] at k2; exact k2
  · rw [e] at k3; exact k3
  · rw [e] at k4; exact k4
  · rw [e] at k5; exact k5
  · rw [e] at k6; exact k6
  · rw [e] at k7; exact k7
  · rw [e] at k8; exact k8
theorem all7 (o : Orc) (ho : OkO o) (h : o 0 9 = 7) : ∃ w', execs (ex exF G) B [V (spc 0), none, none, none, none, none, none, none, none, none, none] [.orc o] = .ok (.ret (.val (.bool true))) w' := by
  have e0 := Orc.upd_self o 0 9
  rw [h] at e0
  have p := pre7 o
  rw [e0] at p
  have eB : B = B.take 8 ++ (st8 :: B.drop 9) := rfl
  obtain ⟨a5, a10, q1⟩ := pr7 (.int 0) (V (.tuple [.str "groups", .int 8])) none none none (V (.int 0)) none (Orc.tl o) (okO_tl ho)
  obtain ⟨b5, b10, q2⟩ := pr7 (.int 1) a5 (V (.int 0)) none none (V (.int 0)) a10 (Orc.tl (Orc.tl (Orc.tl o))) (okO_tl (okO_tl (okO_tl ho)))
  have hl : ex exF G st8 (S7 (V (.tuple [.str "groups", .int 8])) none none none (V (.int 0)) none) [.orc (Orc.tl o), .scr []] = .ok (.nxt (S7 b5 (V (.int 1)) none none (V (.int 0)) b10)) [.orc (Orc.tl (Orc.tl (Orc.tl (Orc.tl (Orc.tl o))))), .scr []] := by
    rw [lp7]
    show (Fb (.int 0) _ _).bind _ = _
    rw [q1]
    show (Fb (.int 1) _ _).bind _ = _
    rw [q2]
    rfl
  have z := sf7 b5 (V (.int 1)) (V (.int 0)) b10 _ (okO_tl (okO_tl (okO_tl (okO_tl (okO_tl ho)))))
  have k := execs_app (b := st8 :: B.drop 9) p
  rw [← eB] at k
  refine ⟨[.orc (Orc.tl (Orc.tl (Orc.tl (Orc.tl (Orc.tl (Orc.tl o)))))), .scr []], k.trans ?_⟩
  show (ex exF G st8 _ _).bind _ = _
  rw [hl]
  exact z
abbrev rs8 : List D := [.tuple [.str "trimmed", .int 0], .tuple [.str "trimmed", .int 1], .tuple [.str "trimmed", .int 2], .tuple [.str "trimmed", .int 3], .tuple [.str "trimmed", .int 4], .tuple [.str "winsorized", .int 0], .tuple [.str "winsorized", .int 1], .tuple [.str "winsorized", .int 2], .tuple [.str "winsorized", .int 3], .tuple [.str "winsorized", .int 4], .tuple [.str "pairs", .int 0], .tuple [.str "groups", .int 1], .tuple [.str "groups", .int 3], .tuple [.str "groups", .int 9]]
abbrev S8 (x5 x6 x7 x8 x9 x10 : Option RV) : Sl := [V (spc 0), V (spc 1), V (.int 9), V (.list rs8), V (.int 4), x5, x6, x7, x8, x9, x10]
theorem pre8 (o : Orc) : execs (ex exF G) (B.take 8) [V (spc 0), none, none, none, none, none, none, none, none, none, none] [.orc (Orc.upd o 0 9 8)] = .ok (.nxt (S8 (V (.tuple [.str "groups", .int 9])) none none none (V (.int 0)) none)) [.orc (Orc.tl (Orc.upd o 0 9 8)), .scr []] := by kernel_rfl
theorem lp8 (x5 x6 x7 x8 x9 x10 : Option RV) (w : Wd) : ex exF G st8 (S8 x5 x6 x7 x8 x9 x10) w = forL Fb [.int 0, .int 1] (S8 x5 x6 x7 x8 x9 x10) w := by kernel_rfl
theorem pr8_0 (t : D) (x5 x6 x7 x8 x9 x10 : Option RV) (o : Orc) : (Fb t (S8 x5 x6 x7 x8 x9 x10) [.orc (Orc.upd (Orc.upd o 1 14 0) 0 14 0), .scr []] = .ok (.nxt (S8 (V (.tuple [.str "trimmed", .int 0])) (V t) x7 x8 x9 (V (.tuple [.str "trimmed", .int 0])))) [.orc (Orc.tl (Orc.tl (Orc.upd (Orc.upd o 1 14 0) 0 14 0))), .scr []]) ∧ (Fb t (S8 x5 x6 x7 x8 x9 x10) [.orc (Orc.upd (Orc.upd o 1 14 1) 0 14 0), .scr []] = .ok (.nxt (S8 (V (.tuple [.str "trimmed", .int 0])) (V t) x7 x8 x9 (V (.tuple [.str "trimmed", .int 1])))) [.orc (Orc.tl (Orc.tl (Orc.upd (Orc.upd o 1 14 1) 0 14 0))), .scr []]) ∧ (Fb t (S8 x5 x6 x7 x8 x9 x10) [.orc (Orc.upd (Orc.upd o 1 14 2) 0 14 0), .scr []] = .ok (.nxt (S8 (V (.tuple [.str "trimmed", .int 0])) (V t) x7 x8 x9 (V (.tuple [.str "trimmed", .int 2])))) [.orc (Orc.tl (Orc.tl (Orc.upd (Orc.upd o 1 14 2) 0 14 0))), .scr []]) ∧ (Fb t (S8 x5 x6 x7 x8 x9 x10) [.orc (Orc.upd (Orc.upd o 1 14 3) 0 14 0), .scr []] = .ok (.nxt (S8 (V (.tuple [.str "trimmed", .int 0])) (V t) x7 x8 x9 (V (.tuple [.str "trimmed", .int 3])))) [.orc (Orc.tl (Orc.tl (Orc.upd (Orc.upd o 1 14 3) 0 14 0))), .scr []]) ∧ (Fb t (S8 x5 x6 x7 x8 x9 x10) [.orc (Orc.upd (Orc.upd o 1 14 4) 0 14 0), .scr []] = .ok (.nxt (S8 (V (.tuple [.str "trimmed", .int 0])) (V t) x7 x8 x9 (V (.tuple [.str "trimmed", .int 4])))) [.orc (Orc.tl (Orc.tl (Orc.upd (Orc.upd o 1 14 4) 0 14 0))), .scr []]) ∧ (Fb t (S8 x5 x6 x7 x8 x9 x10) [.orc (Orc.upd (Orc.upd o 1 14 5) 0 14 0), .scr []] = .ok (.nxt (S8 (V (.tuple [.str "trimmed", .int 0])) (V t) x7 x8 x9 (V (.tuple [.str "winsorized", .int 0])))) [.orc (Orc.tl (Orc.tl (Orc.upd (Orc.upd o 1 14 5) 0 14 0))), .scr []]) ∧ (Fb t (S8 x5 x6 x7 x8 x9 x10) [.orc (Orc.upd (Orc.upd o 1 14 6) 0 14 0), .scr []] = .ok (.nxt (S8 (V (.tuple [.str "trimmed", .int 0])) (V t) x7 x8 x9 (V (.tuple [.str "winsorized", .int 1])))) [.orc (Orc.tl (Orc.tl (Orc.upd (Orc.upd o 1 14 6) 0 14 0))), .scr []]) ∧ (Fb t (S8 x5 x6 x7 x8 x9 x10) [.orc (Orc.upd (Orc.upd o 1 14 7) 0 14 0), .scr []] = .ok (.nxt (S8 (V (.tuple [.str "trimmed", .int 0])) (V t) x7 x8 x9 (V (.tuple [.str "winsorized", .int 2])))) [.orc (Orc.tl (Orc.tl (Orc.upd (Orc.upd o 1 14 7) 0 14 0))), .scr []]) ∧ (Fb t (S8 x5 x6 x7 x8 x9 x10) [.orc (Orc.upd (Orc.upd o 1 14 8) 0 14 0), .scr []] = .ok (.nxt (S8 (V (.tuple [.str "trimmed", .int 0])) (V t) x7 x8 x9 (V (.tuple [.str "winsorized", .int 3])))) [.orc (Orc.tl (Orc.tl (Orc.upd (Orc.upd o 1 14 8) 0 14 0))), .scr []]) ∧ (Fb t (S8 x5 x6 x7 x8 x9 x10) [.orc (Orc.upd (Orc.upd o 1 14 9) 0 14 0), .scr []] = .ok (.nxt (S8 (V (.tuple [.str "trimmed", .int 0])) (V t) x7 x8 x9 (V (.tuple [.str "winsorized", .int 4])))) [.orc (Orc.tl (Orc.tl (Orc.upd (Orc.upd o 1 14 9) 0 14 0))), .scr []]) ∧ (Fb t (S8 x5 x6 x7 x8 x9 x10) [.orc (Orc.upd (Orc.upd o 1 14 10) 0 14 0), .scr []] = .ok (.nxt (S8 (V (.tuple [.str "trimmed", .int 0])) (V t) x7 x8 x9 (V (.tuple [.str "pairs", .int 0])))) [.orc (Orc.tl (Orc.tl (Orc.upd (Orc.upd o 1 14 10) 0 14 0))), .scr []]) ∧ (Fb t (S8 x5 x6 x7 x8 x9 x10) [.orc (Orc.upd (Orc.upd o 1 14 11) 0 14 0), .scr []] = .ok (.nxt (S8 (V (.tuple [.str "trimmed", .int 0])) (V t) x7 x8 x9 (V (.tuple [.str "groups", .int 1])))) [.orc (Orc.tl (Orc.tl (Orc.upd (Orc.upd o 1 14 11) 0 14 0))), .scr []]) ∧ (Fb t (S8 x5 x6 x7 x8 x9 x10) [.orc (Orc.upd (Orc.upd o 1 14 12) 0 14 0), .scr []] = .ok (.nxt (S8 (V (.tuple [.str "trimmed", .int 0])) (V t) x7 x8 x9 (V (.tuple [.str "groups", .int 3])))) [.orc (Orc.tl (Orc.tl (Orc.upd (Orc.upd o 1 14 12) 0 14 0))), .scr []]) ∧ (Fb t (S8 x5 x6 x7 x8 x9 x10) [.orc (Orc.upd (Orc.upd o 1 14 13) 0 14 0), .scr []] = .ok (.nxt (S8 (V (.tuple [.str "trimmed", .int 0])) (V t) x7 x8 x9 (V (.tuple [.str "groups", .int 9])))) [.orc (Orc.tl (Orc.tl (Orc.upd (Orc.upd o 1 14 13) 0 14 0))), .scr []]) := ⟨by kernel_rfl, by kernel_rfl, by kernel_rfl, by kernel_rfl, by kernel_rfl, by kernel_rfl, by kernel_rfl, by kernel_rfl, by kernel_rfl, by kernel_rfl, by kernel_rfl, by kernel_rfl, by kernel_rfl, by kernel_rfl⟩
theorem pr8_1 (t : D) (x5 x6 x7 x8 x9 x10 : Option RV) (o : Orc) : (Fb t (S8 x5 x6 x7 x8 x9 x10) [.orc (Orc.upd (Orc.upd o 1 14 0) 0 14 1), .scr []] = .ok (.nxt (S8 (V (.tuple [.str "trimmed", .int 1])) (V t) x7 x8 x9 (V (.tuple [.str "trimmed", .int 0])))) [.orc (Orc.tl (Orc.tl (Orc.upd (Orc.upd o 1 14 0) 0 14 1))), .scr []]) ∧ (Fb t (S8 x5 x6 x7 x8 x9 x10) [.orc (Orc.upd (Orc.upd o 1 14 1) 0 14 1), .scr []] = .ok (.nxt (S8 (V (.tuple [.str "trimmed", .int 1])) (V t) x7 x8 x9 (V (.tuple [.str "trimmed", .int 1])))) [.orc (Orc.tl (Orc.tl (Orc.upd (Orc.upd o 1 14 1) 0 14 1))), .scr []]) ∧ (Fb t (S8 x5 x6 x7 x8 x9 x10) [.orc (Orc.upd (Orc.upd o 1 14 2) 0 14 1), .scr []] = .ok (.nxt (S8 (V (.tuple [.str "trimmed", .int 1])) (V t) x7 x8 x9 (V (.tuple [.str "trimmed", .int 2])))) [.orc (Orc.tl (Orc.tl (Orc.upd (Orc.upd o 1 14 2) 0 14 1))), .scr []]) ∧ (Fb t (S8 x5 x6 x7 x8 x9 x10) [.orc (Orc.upd (Orc.upd o 1 14 3) 0 14 1), .scr []] = .ok (.nxt (S8 (V (.tuple [.str "trimmed", .int 1])) (V t) x7 x8 x9 (V (.tuple [.str "trimmed", .int 3])))) [.orc (Orc.tl (Orc.tl (Orc.upd (Orc.upd o 1 14 3) 0 14 1))), .scr []]) ∧ (Fb t (S8 x5 x6 x7 x8 x9 x10) [.orc (Orc.upd (Orc.upd o 1 14 4) 0 14 1), .scr []] = .ok (.nxt (S8 (V (.tuple [.str "trimmed", .int 1])) (V t) x7 x8 x9 (V (.tuple [.str "trimmed", .int 4])))) [.orc (Orc.tl (Orc.tl (Orc.upd (Orc.upd o 1 14 4) 0 14 1))), .scr []]) ∧ (Fb t (S8 x5 x6 x7 x8 x9 x10) [.orc (Orc.upd (Orc.upd o 1 14 5) 0 14 1), .scr []] = .ok (.nxt (S8 (V (.tuple [.str "trimmed", .int 1])) (V t) x7 x8 x9 (V (.tuple [.str "winsorized", .int 0])))) [.orc (Orc.tl (Orc.tl (Orc.upd (Orc.upd o 1 14 5) 0 14 1))), .scr []]) ∧ (Fb t (S8 x5 x6 x7 x8 x9 x10) [.orc (Orc.upd (Orc.upd o 1 14 6) 0 14 1), .scr []] = .ok (.nxt (S8 (V (.tuple [.str "trimmed", .int 1])) (V t) x7 x8 x9 (V (.tuple [.str "winsorized", .int 1])))) [.orc (Orc.tl (Orc.tl (Orc.upd (Orc.upd o 1 14 6) 0 14 1))), .scr []]) ∧ (Fb t (S8 x5 x6 x7 x8 x9 x10) [.orc (Orc.upd (Orc.upd o 1 14 7) 0 14 1), .scr []] = .ok (.nxt (S8 (V (.tuple [.str "trimmed", .int 1])) (V t) x7 x8 x9 (V (.tuple [.str "winsorized", .int 2])))) [.orc (Orc.tl (Orc.tl (Orc.upd (Orc.upd o 1 14 7) 0 14 1))), .scr []]) ∧ (Fb t (S8 x5 x6 x7 x8 x9 x10) [.orc (Orc.upd (Orc.upd o 1 14 8) 0 14 1), .scr []] = .ok (.nxt (S8 (V (.tuple [.str "trimmed", .int 1])) (V t) x7 x8 x9 (V (.tuple [.str "winsorized", .int 3])))) [.orc (Orc.tl (Orc.tl (Orc.upd (Orc.upd o 1 14 8) 0 14 1))), .scr []]) ∧ (Fb t (S8 x5 x6 x7 x8 x9 x10) [.orc (Orc.upd (Orc.upd o 1 14 9) 0 14 1), .scr []] = .ok (.nxt (S8 (V (.tuple [.str "trimmed", .int 1])) (V t) x7 x8 x9 (V (.tuple [.str "winsorized", .int 4])))) [.orc (Orc.tl (Orc.tl (Orc.upd (Orc.upd o 1 14 9) 0 14 1))), .scr []]) ∧ (Fb t (S8 x5 x6 x7 x8 x9 x10) [.orc (Orc.upd (Orc.upd o 1 14 10) 0 14 1), .scr []] = .ok (.nxt (S8 (V (.tuple [.str "trimmed", .int 1])) (V t) x7 x8 x9 (V (.tuple [.str "pairs", .int 0])))) [.orc (Orc.tl (Orc.tl (Orc.upd (Orc.upd o 1 14 10) 0 14 1))), .scr []]) ∧ (Fb t (S8 x5 x6 x7 x8 x9 x10) [.orc (Orc.upd (Orc.upd o 1 14 11) 0 14 1), .scr []] = .ok (.nxt (S8 (V (.tuple [.str "trimmed", .int 1])) (V t) x7 x8 x9 (V (.tuple [.str "groups", .int 1])))) [.orc (Orc.tl (Orc.tl (Orc.upd (Orc.upd o 1 14 11) 0 14 1))), .scr []]) ∧ (Fb t (S8 x5 x6 x7 x8 x9 x10) [.orc (Orc.upd (Orc.upd o 1 14 12) 0 14 1), .scr []] = .ok (.nxt (S8 (V (.tuple [.str "trimmed", .int 1])) (V t) x7 x8 x9 (V (.tuple [.str "groups", .int 3])))) [.orc (Orc.tl (Orc.tl (Orc.upd (Orc.upd o 1 14 12) 0 14 1))), .scr []]) ∧ (Fb t (S8 x5 x6 x7 x8 x9 x10) [.orc (Orc.upd (Orc.upd o 1 14 13) 0 14 1), .scr []] = .ok (.nxt (S8 (V (.tuple [.str "trimmed", .int 1])) (V t) x7 x8 x9 (V (.tuple [.str "groups", .int 9])))) [.orc (Orc.tl (Orc.tl (Orc.upd (Orc.upd o 1 14 13) 0 14 1))), .scr []]) := ⟨by kernel_rfl, by kernel_rfl, by kernel_rfl, by kernel_rfl, by kernel_rfl, by kernel_rfl, by kernel_rfl, by kernel_rfl, by kernel_rfl, by kernel_rfl, by kernel_rfl, by kernel_rfl, by kernel_rfl, by kernel_rfl⟩
theorem pr8_2 (t : D) (x5 x6 x7 x8 x9 x10 : Option RV) (o : Orc) : (Fb t (S8 x5 x6 x7 x8 x9 x10) [.orc (Orc.upd (Orc.upd o 1 14 0) 0 14 2), .scr []] = .ok (.nxt (S8 (V (.tuple [.str "trimmed", .int 2])) (V t) x7 x8 x9 (V (.tuple [.str "trimmed", .int 0])))) [.orc (Orc.tl (Orc.tl (Orc.upd (Orc.upd o 1 14 0) 0 14 2))), .scr []]) ∧ (Fb t (S8 x5 x6 x7 x8 x9 x10) [.orc (Orc.upd (Orc.upd o 1 14 1) 0 14 2), .scr []] = .ok (.nxt (S8 (V (.tuple [.str "trimmed", .int 2])) (V t) x7 x8 x9 (V (.tuple [.str "trimmed", .int 1])))) [.orc (Orc.tl (Orc.tl (Orc.upd (Orc.upd o 1 14 1) 0 14 2))), .scr []]) ∧ (Fb t (S8 x5 x6 x7 x8 x9 x10) [.orc (Orc.upd (Orc.upd o 1 14 2) 0 14 2), .scr []] = .ok (.nxt (S8 (V (.tuple [.str "trimmed", .int 2])) (V t) x7 x8 x9 (V (.tuple [.str "trimmed", .int 2])))) [.orc (Orc.tl (Orc.tl (Orc.upd (Orc.upd o 1 14 2) 0 14 2))), .scr []]) ∧ (Fb t (S8 x5 x6 x7 x8 x9 x10) [.orc (Orc.upd (Orc.upd o 1 14 3) 0 14 2), .scr []] = .ok (.nxt (S8 (V (.tuple [.str "trimmed", .int 2])) (V t) x7 x8 x9 (V (.tuple [.str "trimmed", .int 3])))) [.orc (Orc.tl (Orc.tl (Orc.upd (Orc.upd o 1 14 3) 0 14 2))), .scr []]) ∧ (Fb t (S8 x5 x6 x7 x8 x9 x10) [.orc (Orc.upd (Orc.upd o 1 14 4) 0 14 2), .scr []] = .ok (.nxt (S8 (V (.tuple [.str "trimmed", .int 2])) (V t) x7 x8 x9 (V (.tuple [.str "trimmed", .int 4])))) [.orc (Orc.tl (Orc.tl (Orc.upd (Orc.upd o 1 14 4) 0 14 2))), .scr []]) ∧ (Fb t (S8 x5 x6 x7 x8 x9 x10) [.orc (Orc.upd (Orc.upd o 1 14 5) 0 14 2), .scr []] = .ok (.nxt (S8 (V (.tuple [.str "trimmed", .int 2])) (V t) x7 x8 x9 (V (.tuple [.str "winsorized", .int 0])))) [.orc (Orc.tl (Orc.tl (Orc.upd (Orc.upd o 1 14 5) 0 14 2))), .scr []]) ∧ (Fb t (S8 x5 x6 x7 x8 x9 x10) [.orc (Orc.upd (Orc.upd o 1 14 6) 0 14 2), .scr []] = .ok (.nxt (S8 (V (.tuple [.str "trimmed", .int 2])) (V t) x7 x8 x9 (V (.tuple [.str "winsorized", .int 1])))) [.orc (Orc.tl (Orc.tl (Orc.upd (Orc.upd o 1 14 6) 0 14 2))), .scr []]) ∧ (Fb t (S8 x5 x6 x7 x8 x9 x10) [.orc (Orc.upd (Orc.upd o 1 14 7) 0 14 2), .scr []] = .ok (.nxt (S8 (V (.tuple [.str "trimmed", .int 2])) (V t) x7 x8 x9 (V (.tuple [.str "winsorized", .int 2])))) [.orc (Orc.tl (Orc.tl (Orc.upd (Orc.upd o 1 14 7) 0 14 2))), .scr []]) ∧ (Fb t (S8 x5 x6 x7 x8 x9 x10) [.orc (Orc.upd (Orc.upd o 1 14 8) 0 14 2), .scr []] = .ok (.nxt (S8 (V (.tuple [.str "trimmed", .int 2])) (V t) x7 x8 x9 (V (.tuple [.str "winsorized", .int 3])))) [.orc (Orc.tl (Orc.tl (Orc.upd (Orc.upd o 1 14 8) 0 14 2))), .scr []]) ∧ (Fb t (S8 x5 x6 x7 x8 x9 x10) [.orc (Orc.upd (Orc.upd o 1 14 9) 0 14 2), .scr []] = .ok (.nxt (S8 (V (.tuple [.str "trimmed", .int 2])) (V t) x7 x8 x9 (V (.tuple [.str "winsorized", .int 4])))) [.orc (Orc.tl (Orc.tl (Orc.upd (Orc.upd o 1 14 9) 0 14 2))), .scr []]) ∧ (Fb t (S8 x5 x6 x7 x8 x9 x10) [.orc (Orc.upd (Orc.upd o 1 14 10) 0 14 2), .scr []] = .ok (.nxt (S8 (V (.tuple [.str "trimmed", .int 2])) (V t) x7 x8 x9 (V (.tuple [.str "pairs", .int 0])))) [.orc (Orc.tl (Orc.tl (Orc.upd (Orc.upd o 1 14 10) 0 14 2))), .scr []]) ∧ (Fb t (S8 x5 x6 x7 x8 x9 x10) [.orc (Orc.upd (Orc.upd o 1 14 11) 0 14 2), .scr []] = .ok (.nxt (S8 (V (.tuple [.str "trimmed", .int 2])) (V t) x7 x8 x9 (V (.tuple [.str "groups", .int 1])))) [.orc (Orc.tl (Orc.tl (Orc.upd (Orc.upd o 1 14 11) 0 14 2))), .scr []]) ∧ (Fb t (S8 x5 x6 x7 x8 x9 x10) [.orc (Orc.upd (Orc.upd o 1 14 12) 0 14 2), .scr []] = .ok (.nxt (S8 (V (.tuple [.str "trimmed", .int 2])) (V t) x7 x8 x9 (V (.tuple [.str "groups", .int 3])))) [.orc (Orc.tl (Orc.tl (Orc.upd (Orc.upd o 1 14 12) 0 14 2))), .scr []]) ∧ (Fb t (S8 x5 x6 x7 x8 x9 x10) [.orc (Orc.upd (Orc.upd o 1 14 13) 0 14 2), .scr []] = .ok (.nxt (S8 (V (.tuple [.str "trimmed", .int 2])) (V t) x7 x8 x9 (V (.tuple [.str "groups", .int 9])))) [.orc (Orc.tl (Orc.tl (Orc.upd (Orc.upd o 1 14 13) 0 14 2))), .scr []]) := ⟨by kernel_rfl, by kernel_rfl, by kernel_rfl, by kernel_rfl, by kernel_rfl, by kernel_rfl, by kernel_rfl, by kernel_rfl, by kernel_rfl, by kernel_rfl, by kernel_rfl, by kernel_rfl, by kernel_rfl, by kernel_rfl⟩
theorem pr8_3 (t : D) (x5 x6 x7 x8 x9 x10 : Option RV) (o : Orc) : (Fb t (S8 x5 x6 x7 x8 x9 x10) [.orc (Orc.upd (Orc.upd o 1 14 0) 0 14 3), .scr []] = .ok (.nxt (S8 (V (.tuple [.str "trimmed", .int 3])) (V t) x7 x8 x9 (V (.tuple [.str "trimmed", .int 0])))) [.orc (Orc.tl (Orc.tl (Orc.upd (Orc.upd o 1 14 0) 0 14 3))), .scr []]) ∧ (Fb t (S8 x5 x6 x7 x8 x9 x10) [.orc (Orc.upd (Orc.upd o 1 14 1) 0 14 3), .scr []] = .ok (.nxt (S8 (V (.tuple [.str "trimmed", .int 3])) (V t) x7 x8 x9 (V (.tuple [.str "trimmed", .int 1])))) [.orc (Orc.tl (Orc.tl (Orc.upd (Orc.upd o 1 14 1) 0 14 3))), .scr []]) ∧ (Fb t (S8 x5 x6 x7 x8 x9 x10) [.orc (Orc.upd (Orc.upd o 1 14 2) 0 14 3), .scr []] = .ok (.nxt (S8 (V (.tuple [.str "trimmed", .int 3])) (V t) x7 x8 x9 (V (.tuple [.str "trimmed", .int 2])))) [.orc (Orc.tl (Orc.tl (Orc.upd (Orc.upd o 1 14 2) 0 14 3))), .scr []]) ∧ (Fb t (S8 x5 x6 x7 x8 x9 x10) [.orc (Orc.upd (Orc.upd o 1 14 3) 0 14 3), .scr []] = .ok (.nxt (S8 (V (.tuple [.str "trimmed", .int 3])) (V t) x7 x8 x9 (V (.tuple [.str "trimmed", .int 3])))) [.orc (Orc.tl (Orc.tl (Orc.upd (Orc.upd o 1 14 3) 0 14 3))), .scr []]) ∧ (Fb t (S8 x5 x6 x7 x8 x9 x10) [.orc (Orc.upd (Orc.upd o 1 14 4) 0 14 3), .scr []] = .ok (.nxt (S8 (V (.tuple [.str "trimmed", .int 3])) (V t) x7 x8 x9 (V (.tuple [.str "trimmed", .int 4])))) [.orc (Orc.tl (Orc.tl (Orc.upd (Orc.upd o 1 14 4) 0 14 3))), .scr []]) ∧ (Fb t (S8 x5 x6 x7 x8 x9 x10) [.orc (Orc.upd (Orc.upd o 1 14 5) 0 14 3), .scr []] = .ok (.nxt (S8 (V (.tuple [.str "trimmed", .int 3])) (V t) x7 x8 x9 (V (.tuple [.str "winsorized", .int 0])))) [.orc (Orc.tl (Orc.tl (Orc.upd (Orc.upd o 1 14 5) 0 14 3))), .scr []]) ∧ (Fb t (S8 x5 x6 x7 x8 x9 x10) [.orc (Orc.upd (Orc.upd o 1 14 6) 0 14 3), .scr []] = .ok (.nxt (S8 (V (.tuple [.str "trimmed", .int 3])) (V t) x7 x8 x9 (V (.tuple [.str "winsorized", .int 1])))) [.orc (Orc.tl (Orc.tl (Orc.upd (Orc.upd o 1 14 6) 0 14 3))), .scr []]) ∧ (Fb t (S8 x5 x6 x7 x8 x9 x10) [.orc (Orc.upd (Orc.upd o 1 14 7) 0 14 3), .scr []] = .ok (.nxt (S8 (V (.tuple [.str "trimmed", .int 3])) (V t) x7 x8 x9 (V (.tuple [.str "winsorized", .int 2])))) [.orc (Orc.tl (Orc.tl (Orc.upd (Orc.upd o 1 14 7) 0 14 3))), .scr []]) ∧ (Fb t (S8 x5 x6 x7 x8 x9 x10) [.orc (Orc.upd (Orc.upd o 1 14 8) 0 14 3), .scr []] = .ok (.nxt (S8 (V (.tuple [.str "trimmed", .int 3])) (V t) x7 x8 x9 (V (.tuple [.str "winsorized", .int 3])))) [.orc (Orc.tl (Orc.tl (Orc.upd (Orc.upd o 1 14 8) 0 14 3))), .scr []]) ∧ (Fb t (S8 x5 x6 x7 x8 x9 x10) [.orc (Orc.upd (Orc.upd o 1 14 9) 0 14 3), .scr []] = .ok (.nxt (S8 (V (.tuple [.str "trimmed", .int 3])) (V t) x7 x8 x9 (V (.tuple [.str "winsorized", .int 4])))) [.orc (Orc.tl (Orc.tl (Orc.upd (Orc.upd o 1 14 9) 0 14 3))), .scr []]) ∧ (Fb t (S8 x5 x6 x7 x8 x9 x10) [.orc (Orc.upd (Orc.upd o 1 14 10) 0 14 3), .scr []] = .ok (.nxt (S8 (V (.tuple [.str "trimmed", .int 3])) (V t) x7 x8 x9 (V (.tuple [.str "pairs", .int 0])))) [.orc (Orc.tl (Orc.tl (Orc.upd (Orc.upd o 1 14 10) 0 14 3))), .scr []]) ∧ (Fb t (S8 x5 x6 x7 x8 x9 x10) [.orc (Orc.upd (Orc.upd o 1 14 11) 0 14 3), .scr []] = .ok (.nxt (S8 (V (.tuple [.str "trimmed", .int 3])) (V t) x7 x8 x9 (V (.tuple [.str "groups", .int 1])))) [.orc (Orc.tl (Orc.tl (Orc.upd (Orc.upd o 1 14 11) 0 14 3))), .scr []]) ∧ (Fb t (S8 x5 x6 x7 x8 x9 x10) [.orc (Orc.upd (Orc.upd o 1 14 12) 0 14 3), .scr []] = .ok (.nxt (S8 (V (.tuple [.str "trimmed", .int 3])) (V t) x7 x8 x9 (V (.tuple [.str "groups", .int 3])))) [.orc (Orc.tl (Orc.tl (Orc.upd (Orc.upd o 1 14 12) 0 14 3))), .scr []]) ∧ (Fb t (S8 x5 x6 x7 x8 x9 x10) [.orc (Orc.upd (Orc.upd o 1 14 13) 0 14 3), .scr []] = .ok (.nxt (S8 (V (.tuple [.str "trimmed", .int 3])) (V t) x7 x8 x9 (V (.tuple [.str "groups", .int 9])))) [.orc (Orc.tl (Orc.tl (Orc.upd (Orc.upd o 1 14 13) 0 14 3))), .scr []]) := ⟨by kernel_rfl, by kernel_rfl, by kernel_rfl, by kernel_rfl, by kernel_rfl, by kernel_rfl, by kernel_rfl, by kernel_rfl, by kernel_rfl, by kernel_rfl, by kernel_rfl, by kernel_rfl, by kernel_rfl, by kernel_rfl⟩
theorem pr8_4 (t : D) (x5 x6 x7 x8 x9 x10 : Option RV) (o : Orc) : (Fb t (S8 x5 x6 x7 x8 x9 x10) [.orc (Orc.upd (Orc.upd o 1 14 0) 0 14 4), .scr []] = .ok (.nxt (S8 (V (.tuple [.str "trimmed", .int 4])) (V t) x7 x8 x9 (V (.tuple [.str "trimmed", .int 0])))) [.orc (Orc.tl (Orc.tl (Orc.upd (Orc.upd o 1 14 0) 0 14 4))), .scr []]) ∧ (Fb t (S8 x5 x6 x7 x8 x9 x10) [.orc (Orc.upd (Orc.upd o 1 14 1) 0 14 4), .scr []] = .ok (.nxt (S8 (V (.tuple [.str "trimmed", .int 4])) (V t) x7 x8 x9 (V (.tuple [.str "trimmed", .int 1])))) [.orc (Orc.tl (Orc.tl (Orc.upd (Orc.upd o 1 14 1) 0 14 4))), .scr []]) ∧ (Fb t (S8 x5 x6 x7 x8 x9 x10) [.orc (Orc.upd (Orc.upd o 1 14 2) 0 14 4), .scr []] = .ok (.nxt (S8 (V (.tuple [.str "trimmed", .int 4])) (V t) x7 x8 x9 (V (.tuple [.str "trimmed", .int 2])))) [.orc (Orc.tl (Orc.tl (Orc.upd (Orc.upd o 1 14 2) 0 14 4))), .scr []]) ∧ (Fb t (S8 x5 x6 x7 x8 x9 x10) [.orc (Orc.upd (Orc.upd o 1 14 3) 0 14 4), .scr []] = .ok (.nxt (S8 (V (.tuple [.str "trimmed", .int 4])) (V t) x7 x8 x9 (V (.tuple [.str "trimmed", .int 3])))) [.orc (Orc.tl (Orc.tl (Orc.upd (Orc.upd o 1 14 3) 0 14 4))), .scr []]) ∧ (Fb t (S8 x5 x6 x7 x8 x9 x10) [.orc (Orc.upd (Orc.upd o 1 14 4) 0 14 4), .scr []] = .ok (.nxt (S8 (V (.tuple [.str "trimmed", .int 4])) (V t) x7 x8 x9 (V (.tuple [.str "trimmed", .int 4])))) [.orc (Orc.tl (Orc.tl (Orc.upd (Orc.upd o 1 14 4) 0 14 4))), .scr []]) ∧ (Fb t (S8 x5 x6 x7 x8 x9 x10) [.orc (Orc.upd (Orc.upd o 1 14 5) 0 14 4), .scr []] = .ok (.nxt (S8 (V (.tuple [.str "trimmed", .int 4])) (V t) x7 x8 x9 (V (.tuple [.str "winsorized", .int 0])))) [.orc (Orc.tl (Orc.tl (Orc.upd (Orc.upd o 1 14 5) 0 14 4))), .scr []]) ∧ (Fb t (S8 x5 x6 x7 x8 x9 x10) [.orc (Orc.upd (Orc.upd o 1 14 6) 0 14 4), .scr []] = .ok (.nxt (S8 (V (.tuple [.str "trimmed", .int 4])) (V t) x7 x8 x9 (V (.tuple [.str "winsorized", .int 1])))) [.orc (Orc.tl (Orc.tl (Orc.upd (Orc.upd o 1 14 6) 0 14 4))), .scr []]) ∧ (Fb t (S8 x5 x6 x7 x8 x9 x10) [.orc (Orc.upd (Orc.upd o 1 14 7) 0 14 4), .scr []] = .ok (.nxt (S8 (V (.tuple [.str "trimmed", .int 4])) (V t) x7 x8 x9 (V (.tuple [.str "winsorized", .int 2])))) [.orc (Orc.tl (Orc.tl (Orc.upd (Orc.upd o 1 14 7) 0 14 4))), .scr []]) ∧ (Fb t (S8 x5 x6 x7 x8 x9 x10) [.orc (Orc.upd (Orc.upd o 1 14 8) 0 14 4), .scr []] = .ok (.nxt (S8 (V (.tuple [.str "trimmed", .int 4])) (V t) x7 x8 x9 (V (.tuple [.str "winsorized", .int 3])))) [.orc (Orc.tl (Orc.tl (Orc.upd (Orc.upd o 1 14 8) 0 14 4))), .scr []]) ∧ (Fb t (S8 x5 x6 x7 x8 x9 x10) [.orc (Orc.upd (Orc.upd o 1 14 9) 0 14 4), .scr []] = .ok (.nxt (S8 (V (.tuple [.str "trimmed", .int 4])) (V t) x7 x8 x9 (V (.tuple [.str "winsorized", .int 4])))) [.orc (Orc.tl (Orc.tl (Orc.upd (Orc.upd o 1 14 9) 0 14 4))), .scr []]) ∧ (Fb t (S8 x5 x6 x7 x8 x9 x10) [.orc (Orc.upd (Orc.upd o 1 14 10) 0 14 4), .scr []] = .ok (.nxt (S8 (V (.tuple [.str "trimmed", .int 4])) (V t) x7 x8 x9 (V (.tuple [.str "pairs", .int 0])))) [.orc (Orc.tl (Orc.tl (Orc.upd (Orc.upd o 1 14 10) 0 14 4))), .scr []]) ∧ (Fb t (S8 x5 x6 x7 x8 x9 x10) [.orc (Orc.upd (Orc.upd o 1 14 11) 0 14 4), .scr []] = .ok (.nxt (S8 (V (.tuple [.str "trimmed", .int 4])) (V t) x7 x8 x9 (V (.tuple [.str "groups", .int 1])))) [.orc (Orc.tl (Orc.tl (Orc.upd (Orc.upd o 1 14 11) 0 14 4))), .scr []]) ∧ (Fb t (S8 x5 x6 x7 x8 x9 x10) [.orc (Orc.upd (Orc.upd o 1 14 12) 0 14 4), .scr []] = .ok (.nxt (S8 (V (.tuple [.str "trimmed", .int 4])) (V t) x7 x8 x9 (V (.tuple [.str "groups", .int 3])))) [.orc (Orc.tl (Orc.tl (Orc.upd (Orc.upd o 1 14 12) 0 14 4))), .scr []]) ∧ (Fb t (S8 x5 x6 x7 x8 x9 x10) [.orc (Orc.upd (Orc.upd o 1 14 13) 0 14 4), .scr []] = .ok (.nxt (S8 (V (.tuple [.str "trimmed", .int 4])) (V t) x7 x8 x9 (V (.tuple [.str "groups", .int 9])))) [.orc (Orc.tl (Orc.tl (Orc.upd (Orc.upd o 1 14 13) 0 14 4))), .scr []]) := ⟨by kernel_rfl, by kernel_rfl, by kernel_rfl, by kernel_rfl, by kernel_rfl, by kernel_rfl, by kernel_rfl, by kernel_rfl, by kernel_rfl, by kernel_rfl, by kernel_rfl, by kernel_rfl, by kernel_rfl, by kernel_rfl⟩
theorem pr8_5 (t : D) (x5 x6 x7 x8 x9 x10 : Option RV) (o : Orc) : (Fb t (S8 x5 x6 x7 x8 x9 x10) [.orc (Orc.upd (Orc.upd o 1 14 0) 0 14 5), .scr []] = .ok (.nxt (S8 (V (.tuple [.str "winsorized", .int 0])) (V t) x7 x8 x9 (V (.tuple [.str "trimmed", .int 0])))) [.orc (Orc.tl (Orc.tl (Orc.upd (Orc.upd o 1 14 0) 0 14 5))), .scr []]) ∧ (Fb t (S8 x5 x6 x7 x8 x9 x10) [.orc (Orc.upd (Orc.upd o 1 14 1) 0 14 5), .scr []] = .ok (.nxt (S8 (V (.tuple [.str "winsorized", .int 0])) (V t) x7 x8 x9 (V (.tuple [.str "trimmed", .int 1])))) [.orc (Orc.tl (Orc.tl (Orc.upd (Orc.upd o 1 14 1) 0 14 5))), .scr []]) ∧ (Fb t (S8 x5 x6 x7 x8 x9 x10) [.orc (Orc.upd (Orc.upd o 1 14 2) 0 14 5), .scr []] = .ok (.nxt (S8 (V (.tuple [.str "winsorized", .int 0])) (V t) x7 x8 x9 (V (.tuple [.str "trimmed", .int 2])))) [.orc (Orc.tl (Orc.tl (Orc.upd (Orc.upd o 1 14 2) 0 14 5))), .scr []]) ∧ (Fb t (S8 x5 x6 x7 x8 x9 x10) [.orc (Orc.upd (Orc.upd o 1 14 3) 0 14 5), .scr []] = .ok (.nxt (S8 (V (.tuple [.str "winsorized", .int 0])) (V t) x7 x8 x9 (V (.tuple [.str "trimmed", .int 3])))) [.orc (Orc.tl (Orc.tl (Orc.upd (Orc.upd o 1 14 3) 0 14 5))), .scr []]) ∧ (Fb t (S8 x5 x6 x7 x8 x9 x10) [.orc (Orc.upd (Orc.upd o 1 14 4) 0 14 5), .scr []] = .ok (.nxt (S8 (V (.tuple [.str "winsorized", .int 0])) (V t) x7 x8 x9 (V (.tuple [.str "trimmed", .int 4])))) [.orc (Orc.tl (Orc.tl (Orc.upd (Orc.upd o 1 14 4) 0 14 5))), .scr []]) ∧ (Fb t (S8 x5 x6 x7 x8 x9 x10) [.orc (Orc.upd (Orc.upd o 1 14 5) 0 14 5), .scr []] = .ok (.nxt (S8 (V (.tuple [.str "winsorized", .int 0])) (V t) x7 x8 x9 (V (.tuple [.str "winsorized", .int 0])))) [.orc (Orc.tl (Orc.tl (Orc.upd (Orc.upd o 1 14 5) 0 14 5))), .scr []]) ∧ (Fb t (S8 x5 x6 x7 x8 x9 x10) [.orc (Orc.upd (Orc.upd o 1 14 6) 0 14 5), .scr []] = .ok (.nxt (S8 (V (.tuple [.str "winsorized", .int 0])) (V t) x7 x8 x9 (V (.tuple [.str "winsorized", .int 1])))) [.orc (Orc.tl (Orc.tl (Orc.upd (Orc.upd o 1 14 6) 0 14 5))), .scr []]) ∧ (Fb t (S8 x5 x6 x7 x8 x9 x10) [.orc (Orc.upd (Orc.upd o 1 14 7) 0 14 5), .scr []] = .ok (.nxt (S8 (V (.tuple [.str "winsorized", .int 0])) (V t) x7 x8 x9 (V (.tuple [.str "winsorized", .int 2])))) [.orc (Orc.tl (Orc.tl (Orc.upd (Orc.upd o 1 14 7) 0 14 5))), .scr []]) ∧ (Fb t (S8 x5 x6 x7 x8 x9 x10) [.orc (Orc.upd (Orc.upd o 1 14 8) 0 14 5), .scr []] = .ok (.nxt (S8 (V (.tuple [.str "winsorized", .int 0])) (V t) x7 x8 x9 (V (.tuple [.str "winsorized", .int 3])))) [.orc (Orc.tl (Orc.tl (Orc.upd (Orc.upd o 1 14 8) 0 14 5))), .scr []]) ∧ (Fb t (S8 x5 x6 x7 x8 x9 x10) [.orc (Orc.upd (Orc.upd o 1 14 9) 0 14 5), .scr []] = .ok (.nxt (S8 (V (.tuple [.str "winsorized", .int 0])) (V t) x7 x8 x9 (V (.tuple [.str "winsorized", .int 4])))) [.orc (Orc.tl (Orc.tl (Orc.upd (Orc.upd o 1 14 9) 0 14 5))), .scr []]) ∧ (Fb t (S8 x5 x6 x7 x8 x9 x10) [.orc (Orc.upd (Orc.upd o 1 14 10) 0 14 5), .scr []] = .ok (.nxt (S8 (V (.tuple [.str "winsorized", .int 0])) (V t) x7 x8 x9 (V (.tuple [.str "pairs", .int 0])))) [.orc (Orc.tl (Orc.tl (Orc.upd (Orc.upd o 1 14 10) 0 14 5))), .scr []]) ∧ (Fb t (S8 x5 x6 x7 x8 x9 x10) [.orc (Orc.upd (Orc.upd o 1 14 11) 0 14 5), .scr []] = .ok (.nxt (S8 (V (.tuple [.str "winsorized", .int 0])) (V t) x7 x8 x9 (V (.tuple [.str "groups", .int 1])))) [.orc (Orc.tl (Orc.tl (Orc.upd (Orc.upd o 1 14 11) 0 14 5))), .scr []]) ∧ (Fb t (S8 x5 x6 x7 x8 x9 x10) [.orc (Orc.upd (Orc.upd o 1 14 12) 0 14 5), .scr []] = .ok (.nxt (S8 (V (.tuple [.str "winsorized", .int 0])) (V t) x7 x8 x9 (V (.tuple [.str "groups", .int 3])))) [.orc (Orc.tl (Orc.tl (Orc.upd (Orc.upd o 1 14 12) 0 14 5))), .scr []]) ∧ (Fb t (S8 x5 x6 x7 x8 x9 x10) [.orc (Orc.upd (Orc.upd o 1 14 13) 0 14 5), .scr []] = .ok (.nxt (S8 (V (.tuple [.str "winsorized", .int 0])) (V t) x7 x8 x9 (V (.tuple [.str "groups", .int 9])))) [.orc (Orc.tl (Orc.tl (Orc.upd (Orc.upd o 1 14 13) 0 14 5))), .scr []]) := ⟨by kernel_rfl, by kernel_rfl, by kernel_rfl, by kernel_rfl, by kernel_rfl, by kernel_rfl, by kernel_rfl, by kernel_rfl, by kernel_rfl, by kernel_rfl, by kernel_rfl, by kernel_rfl, by kernel_rfl, by kernel_rfl⟩
theorem pr8_6 (t : D) (x5 x6 x7 x8 x9 x10 : Option RV) (o : Orc) : (Fb t (S8 x5 x6 x7 x8 x9 x10) [.orc (Orc.upd (Orc.upd o 1 14 0) 0 14 6), .scr []] = .ok (.nxt (S8 (V (.tuple [.str "winsorized", .int 1])) (V t) x7 x8 x9 (V (.tuple [.str "trimmed", .int 0])))) [.orc (Orc.tl (Orc.tl (Orc.upd (Orc.upd o 1 14 0) 0 14 6))), .scr []]) ∧ (Fb t (S8 x5 x6 x7 x8 x9 x10) [.orc (Orc.upd (Orc.upd o 1 14 1) 0 14 6), .scr []] = .ok (.nxt (S8 (V (.tuple [.str "winsorized", .int 1])) (V t) x7 x8 x9 (V (.tuple [.str "trimmed", .int 1])))) [.orc (Orc.tl (Orc.tl (Orc.upd (Orc.upd o 1 14 1) 0 14 6))), .scr []]) ∧ (Fb t (S8 x5 x6 x7 x8 x9 x10) [.orc (Orc.upd (Orc.upd o 1 14 2) 0 14 6), .scr []] = .ok (.nxt (S8 (V (.tuple [.str "winsorized", .int 1])) (V t) x7 x8 x9 (V (.tuple [.str "trimmed", .int 2])))) [.orc (Orc.tl (Orc.tl (Orc.upd (Orc.upd o 1 14 2) 0 14 6))), .scr []]) ∧ (Fb t (S8 x5 x6 x7 x8 x9 x10) [.orc (Orc.upd (Orc.upd o 1 14 3) 0 14 6), .scr []] = .ok (.nxt (S8 (V (.tuple [.str "winsorized", .int 1])) (V t) x7 x8 x9 (V (.tuple [.str "trimmed", .int 3])))) [.orc (Orc.tl (Orc.tl (Orc.upd (Orc.upd o 1 14 3) 0 14 6))), .scr []]) ∧ (Fb t (S8 x5 x6 x7 x8 x9 x10) [.orc (Orc.upd (Orc.upd o 1 14 4) 0 14 6), .scr []] = .ok (.nxt (S8 (V (.tuple [.str "winsorized", .int 1])) (V t) x7 x8 x9 (V (.tuple [.str "trimmed", .int 4])))) [.orc (Orc.tl (Orc.tl (Orc.upd (Orc.upd o 1 14 4) 0 14 6))), .scr []]) ∧ (Fb t (S8 x5 x6 x7 x8 x9 x10) [.orc (Orc.upd (Orc.upd o 1 14 5) 0 14 6), .scr []] = .ok (.nxt (S8 (V (.tuple [.str "winsorized", .int 1])) (V t) x7 x8 x9 (V (.tuple [.str "winsorized", .int 0])))) [.orc (Orc.tl (Orc.tl (Orc.upd (Orc.upd o 1 14 5) 0 14 6))), .scr []]) ∧ (Fb t (S8 x5 x6 x7 x8 x9 x10) [.orc (Orc.upd (Orc.upd o 1 14 6) 0 14 6), .scr []] = .ok (.nxt (S8 (V (.tuple [.str "winsorized", .int 1])) (V t) x7 x8 x9 (V (.tuple [.str "winsorized", .int 1])))) [.orc (Orc.tl (Orc.tl (Orc.upd (Orc.upd o 1 14 6) 0 14 6))), .scr []]) ∧ (Fb t (S8 x5 x6 x7 x8 x9 x10) [.orc (Orc.upd (Orc.upd o 1 14 7) 0 14 6), .scr []] = .ok (.nxt (S8 (V (.tuple [.str "winsorized", .int 1])) (V t) x7 x8 x9 (V (.tuple [.str "winsorized", .int 2])))) [.orc (Orc.tl (Orc.tl (Orc.upd (Orc.upd o 1 14 7) 0 14 6))), .scr []]) ∧ (Fb t (S8 x5 x6 x7 x8 x9 x10) [.orc (Orc.upd (Orc.upd o 1 14 8) 0 14 6), .scr []] = .ok (.nxt (S8 (V (.tuple [.str "winsorized", .int 1])) (V t) x7 x8 x9 (V (.tuple [.str "winsorized", .int 3])))) [.orc (Orc.tl (Orc.tl (Orc.upd (Orc.upd o 1 14 8) 0 14 6))), .scr []]) ∧ (Fb t (S8 x5 x6 x7 x8 x9 x10) [.orc (Orc.upd (Orc.upd o 1 14 9) 0 14 6), .scr []] = .ok (.nxt (S8 (V (.tuple [.str "winsorized", .int 1])) (V t) x7 x8 x9 (V (.tuple [.str "winsorized", .int 4])))) [.orc (Orc.tl (Orc.tl (Orc.upd (Orc.upd o 1 14 9) 0 14 6))), .scr []]) ∧ (Fb t (S8 x5 x6 x7 x8 x9 x10) [.orc (Orc.upd (Orc.upd o 1 14 10) 0 14 6), .scr []] = .ok (.nxt (S8 (V (.tuple [.str "winsorized", .int 1])) (V t) x7 x8 x9 (V (.tuple [.str "pairs", .int 0])))) [.orc (Orc.tl (Orc.tl (Orc.upd (Orc.upd o 1 14 10) 0 14 6))), .scr []]) ∧ (Fb t (S8 x5 x6 x7 x8 x9 x10) [.orc (Orc.upd (Orc.upd o 1 14 11) 0 14 6), .scr []] = .ok (.nxt (S8 (V (.tuple [.str "winsorized", .int 1])) (V t) x7 x8 x9 (V (.tuple [.str "groups", .int 1])))) [.orc (Orc.tl (Orc.tl (Orc.upd (Orc.upd o 1 14 11) 0 14 6))), .scr []]) ∧ (Fb t (S8 x5 x6 x7 x8 x9 x10) [.orc (Orc.upd (Orc.upd o 1 14 12) 0 14 6), .scr []] = .ok (.nxt (S8 (V (.tuple [.str "winsorized", .int 1])) (V t) x7 x8 x9 (V (.tuple [.str "groups", .int 3])))) [.orc (Orc.tl (Orc.tl (Orc.upd (Orc.upd o 1 14 12) 0 14 6))), .scr []]) ∧ (Fb t (S8 x5 x6 x7 x8 x9 x10) [.orc (Orc.upd (Orc.upd o 1 14 13) 0 14 6), .scr []] = .ok (.nxt (S8 (V (.tuple [.str "winsorized", .int 1])) (V t) x7 x8 x9 (V (.tuple [.str "groups", .int 9])))) [.orc (Orc.tl (Orc.tl (Orc.upd (Orc.upd o 1 14 13) 0 14 6))), .scr []]) := ⟨by kernel_rfl, by kernel_rfl, by kernel_rfl, by kernel_rfl, by kernel_rfl, by kernel_rfl, by kernel_rfl, by kernel_rfl, by kernel_rfl, by kernel_rfl, by kernel_rfl, by kernel_rfl, by kernel_rfl, by kernel_rfl⟩
theorem pr8_7 (t : D) (x5 x6 x7 x8 x9 x10 : Option RV) (o : Orc) : (Fb t (S8 x5 x6 x7 x8 x9 x10) [.orc (Orc.upd (Orc.upd o 1 14 0) 0 14 7), .scr []] = .ok (.nxt (S8 (V (.tuple [.str "winsorized", .int 2])) (V t) x7 x8 x9 (V (.tuple [.str "trimmed", .int 0])))) [.orc (Orc.tl (Orc.tl (Orc.upd (Orc.upd o 1 14 0) 0 14 7))), .scr []]) ∧ (Fb t (S8 x5 x6 x7 x8 x9 x10) [.orc (Orc.upd (Orc.upd o 1 14 1) 0 14 7), .scr []] = .ok (.nxt (S8 (V (.tuple [.str "winsorized", .int 2])) (V t) x7 x8 x9 (V (.tuple [.str "trimmed", .int 1])))) [.orc (Orc.tl (Orc.tl (Orc.upd (Orc.upd o 1 14 1) 0 14 7))), .scr []]) ∧ (Fb t (S8 x5 x6 x7 x8 x9 x10) [.orc (Orc.upd (Orc.upd o 1 14 2) 0 14 7), .scr []] = .ok (.nxt (S8 (V (.tuple [.str "winsorized", .int 2])) (V t) x7 x8 x9 (V (.tuple [.str "trimmed", .int 2])))) [.orc (Orc.tl (Orc.tl (Orc.upd (Orc.upd o 1 14 2) 0 14 7))), .scr []]) ∧ (Fb t (S8 x5 x6 x7 x8 x9 x10) [.orc (Orc.upd (Orc.upd o 1 14 3) 0 14 7), .scr []] = .ok (.nxt (S8 (V (.tuple [.str "winsorized", .int 2])) (V t) x7 x8 x9 (V (.tuple [.str "trimmed", .int 3])))) [.orc (Orc.tl (Orc.tl (Orc.upd (Orc.upd o 1 14 3) 0 14 7))), .scr []]) ∧ (Fb t (S8 x5 x6 x7 x8 x9 x10) [.orc (Orc.upd (Orc.upd o 1 14 4) 0 14 7), .scr []] = .ok (.nxt (S8 (V (.tuple [.str "winsorized", .int 2])) (V t) x7 x8 x9 (V (.tuple [.str "trimmed", .int 4])))) [.orc (Orc.tl (Orc.tl (Orc.upd (Orc.upd o 1 14 4) 0 14 7))), .scr []]) ∧ (Fb t (S8 x5 x6 x7 x8 x9 x10) [.orc (Orc.upd (Orc.upd o 1 14 5) 0 14 7), .scr []] = .ok (.nxt (S8 (V (.tuple [.str "winsorized", .int 2])) (V t) x7 x8 x9 (V (.tuple [.str "winsorized", .int 0])))) [.orc (Orc.tl (Orc.tl (Orc.upd (Orc.upd o 1 14 5) 0 14 7))), .scr []]) ∧ (Fb t (S8 x5 x6 x7 x8 x9 x10) [.orc (Orc.upd (Orc.upd o 1 14 6) 0 14 7), .scr []] = .ok (.nxt (S8 (V (.tuple [.str "winsorized", .int 2])) (V t) x7 x8 x9 (V (.tuple [.str "winsorized", .int 1])))) [.orc (Orc.tl (Orc.tl (Orc.upd (Orc.upd o 1 14 6) 0 14 7))), .scr []]) ∧ (Fb t (S8 x5 x6 x7 x8 x9 x10) [.orc (Orc.upd (Orc.upd o 1 14 7) 0 14 7), .scr []] = .ok (.nxt (S8 (V (.tuple [.str "winsorized", .int 2])) (V t) x7 x8 x9 (V (.tuple [.str "winsorized", .int 2])))) [.orc (Orc.tl (Orc.tl (Orc.upd (Orc.upd o 1 14 7) 0 14 7))), .scr []]) ∧ (Fb t (S8 x5 x6 x7 x8 x9 x10) [.orc (Orc.upd (Orc.upd o 1 14 8) 0 14 7), .scr []] = .ok (.nxt (S8 (V (.tuple [.str "winsorized", .int 2])) (V t) x7 x8 x9 (V (.tuple [.str "winsorized", .int 3])))) [.orc (Orc.tl (Orc.tl (Orc.upd (Orc.upd o 1 14 8) 0 14 7))), .scr []]) ∧ (Fb t (S8 x5 x6 x7 x8 x9 x10) [.orc (Orc.upd (Orc.upd o 1 14 9) 0 14 7), .scr []] = .ok (.nxt (S8 (V (.tuple [.str "winsorized", .int 2])) (V t) x7 x8 x9 (V (.tuple [.str "winsorized", .int 4])))) [.orc (Orc.tl (Orc.tl (Orc.upd (Orc.upd o 1 14 9) 0 14 7))), .scr []]) ∧ (Fb t (S8 x5 x6 x7 x8 x9 x10) [.orc (Orc.upd (Orc.upd o 1 14 10) 0 14 7), .scr []] = .ok (.nxt (S8 (V (.tuple [.str "winsorized", .int 2])) (V t) x7 x8 x9 (V (.tuple [.str "pairs", .int 0])))) [.orc (Orc.tl (Orc.tl (Orc.upd (Orc.upd o 1 14 10) 0 14 7))), .scr []]) ∧ (Fb t (S8 x5 x6 x7 x8 x9 x10) [.orc (Orc.upd (Orc.upd o 1 14 11) 0 14 7), .scr []] = .ok (.nxt (S8 (V (.tuple [.str "winsorized", .int 2])) (V t) x7 x8 x9 (V (.tuple [.str "groups", .int 1])))) [.orc (Orc.tl (Orc.tl (Orc.upd (Orc.upd o 1 14 11) 0 14 7))), .scr []]) ∧ (Fb t (S8 x5 x6 x7 x8 x9 x10) [.orc (Orc.upd (Orc.upd o 1 14 12) 0 14 7), .scr []] = .ok (.nxt (S8 (V (.tuple [.str "winsorized", .int 2])) (V t) x7 x8 x9 (V (.tuple [.str "groups", .int 3])))) [.orc (Orc.tl (Orc.tl (Orc.upd (Orc.upd o 1 14 12) 0 14 7))), .scr []]) ∧ (Fb t (S8 x5 x6 x7 x8 x9 x10) [.orc (Orc.upd (Orc.upd o 1 14 13) 0 14 7), .scr []] = .ok (.nxt (S8 (V (.tuple [.str "winsorized", .int 2])) (V t) x7 x8 x9 (V (.tuple [.str "groups", .int 9])))) [.orc (Orc.tl (Orc.tl (Orc.upd (Orc.upd o 1 14 13) 0 14 7))), .scr []]) := ⟨by kernel_rfl, by kernel_rfl, by kernel_rfl, by kernel_rfl, by kernel_rfl, by kernel_rfl, by kernel_rfl, by kernel_rfl, by kernel_rfl, by kernel_rfl, by kernel_rfl, by kernel_rfl, by kernel_rfl, by kernel_rfl⟩
theorem pr8_8 (t : D) (x5 x6 x7 x8 x9 x10 : Option RV) (o : Orc) : (Fb t (S8 x5 x6 x7 x8 x9 x10) [.orc (Orc.upd (Orc.upd o 1 14 0) 0 14 8), .scr []] = .ok (.nxt (S8 (V (.tuple [.str "winsorized", .int 3])) (V t) x7 x8 x9 (V (.tuple [.str "trimmed", .int 0])))) [.orc (Orc.tl (Orc.tl (Orc.upd (Orc.upd o 1 14 0) 0 14 8))), .scr []]) ∧ (Fb t (S8 x5 x6 x7 x8 x9 x10) [.orc (Orc.upd (Orc.upd o 1 14 1) 0 14 8), .scr []] = .ok (.nxt (S8 (V (.tuple [.str "winsorized", .int 3])) (V t) x7 x8 x9 (V (.tuple [.str "trimmed", .int 1])))) [.orc (Orc.tl (Orc.tl (Orc.upd (Orc.upd o 1 14 1) 0 14 8))), .scr []]) ∧ (Fb t (S8 x5 x6 x7 x8 x9 x10) [.orc (Orc.upd (Orc.upd o 1 14 2) 0 14 8), .scr []] = .ok (.nxt (S8 (V (.tuple [.str "winsorized", .int 3])) (V t) x7 x8 x9 (V (.tuple [.str "trimmed", .int 2])))) [.orc (Orc.tl (Orc.tl (Orc.upd (Orc.upd o 1 14 2) 0 14 8))), .scr []]) ∧ (Fb t (S8 x5 x6 x7 x8 x9 x10) [.orc (Orc.upd (Orc.upd o 1 14 3) 0 14 8), .scr []] = .ok (.nxt (S8 (V (.tuple [.str "winsorized", .int 3])) (V t) x7 x8 x9 (V (.tuple [.str "trimmed", .int 3])))) [.orc (Orc.tl (Orc.tl (Orc.upd (Orc.upd o 1 14 3) 0 14 8))), .scr []]) ∧ (Fb t (S8 x5 x6 x7 x8 x9 x10) [.orc (Orc.upd (Orc.upd o 1 14 4) 0 14 8), .scr []] = .ok (.nxt (S8 (V (.tuple [.str "winsorized", .int 3])) (V t) x7 x8 x9 (V (.tuple [.str "trimmed", .int 4])))) [.orc (Orc.tl (Orc.tl (Orc.upd (Orc.upd o 1 14 4) 0 14 8))), .scr []]) ∧ (Fb t (S8 x5 x6 x7 x8 x9 x10) [.orc (Orc.upd (Orc.upd o 1 14 5) 0 14 8), .scr []] = .ok (.nxt (S8 (V (.tuple [.str "winsorized", .int 3])) (V t) x7 x8 x9 (V (.tuple [.str "winsorized", .int 0])))) [.orc (Orc.tl (Orc.tl (Orc.upd (Orc.upd o 1 14 5) 0 14 8))), .scr []]) ∧ (Fb t (S8 x5 x6 x7 x8 x9 x10) [.orc (Orc.upd (Orc.upd o 1 14 6) 0 14 8), .scr []] = .ok (.nxt (S8 (V (.tuple [.str "winsorized", .int 3])) (V t) x7 x8 x9 (V (.tuple [.str "winsorized", .int 1])))) [.orc (Orc.tl (Orc.tl (Orc.upd (Orc.upd o 1 14 6) 0 14 8))), .scr []]) ∧ (Fb t (S8 x5 x6 x7 x8 x9 x10) [.orc (Orc.upd (Orc.upd o 1 14 7) 0 14 8), .scr []] = .ok (.nxt (S8 (V (.tuple [.str "winsorized", .int 3])) (V t) x7 x8 x9 (V (.tuple [.str "winsorized", .int 2])))) [.orc (Orc.tl (Orc.tl (Orc.upd (Orc.upd o 1 14 7) 0 14 8))), .scr []]) ∧ (Fb t (S8 x5 x6 x7 x8 x9 x10) [.orc (Orc.upd (Orc.upd o 1 14 8) 0 14 8), .scr []] = .ok (.nxt (S8 (V (.tuple [.str "winsorized", .int 3])) (V t) x7 x8 x9 (V (.tuple [.str "winsorized", .int 3])))) [.orc (Orc.tl (Orc.tl (Orc.upd (Orc.upd o 1 14 8) 0 14 8))), .scr []]) ∧ (Fb t (S8 x5 x6 x7 x8 x9 x10) [.orc (Orc.upd (Orc.upd o 1 14 9) 0 14 8), .scr []] = .ok (.nxt (S8 (V (.tuple [.str "winsorized", .int 3])) (V t) x7 x8 x9 (V (.tuple [.str "winsorized", .int 4])))) [.orc (Orc.tl (Orc.tl (Orc.upd (Orc.upd o 1 14 9) 0 14 8))), .scr []]) ∧ (Fb t (S8 x5 x6 x7 x8 x9 x10) [.orc (Orc.upd (Orc.upd o 1 14 10) 0 14 8), .scr []] = .ok (.nxt (S8 (V (.tuple [.str "winsorized", .int 3])) (V t) x7 x8 x9 (V (.tuple [.str "pairs", .int 0])))) [.orc (Orc.tl (Orc.tl (Orc.upd (Orc.upd o 1 14 10) 0 14 8))), .scr []]) ∧ (Fb t (S8 x5 x6 x7 x8 x9 x10) [.orc (Orc.upd (Orc.upd o 1 14 11) 0 14 8), .scr []] = .ok (.nxt (S8 (V (.tuple [.str "winsorized", .int 3])) (V t) x7 x8 x9 (V (.tuple [.str "groups", .int 1])))) [.orc (Orc.tl (Orc.tl (Orc.upd (Orc.upd o 1 14 11) 0 14 8))), .scr []]) ∧ (Fb t (S8 x5 x6 x7 x8 x9 x10) [.orc (Orc.upd (Orc.upd o 1 14 12) 0 14 8), .scr []] = .ok (.nxt (S8 (V (.tuple [.str "winsorized", .int 3])) (V t) x7 x8 x9 (V (.tuple [.str "groups", .int 3])))) [.orc (Orc.tl (Orc.tl (Orc.upd (Orc.upd o 1 14 12) 0 14 8))), .scr []]) ∧ (Fb t (S8 x5 x6 x7 x8 x9 x10) [.orc (Orc.upd (Orc.upd o 1 14 13) 0 14 8), .scr []] = .ok (.nxt (S8 (V (.tuple [.str "winsorized", .int 3])) (V t) x7 x8 x9 (V (.tuple [.str "groups", .int 9])))) [.orc (Orc.tl (Orc.tl (Orc.upd (Orc.upd o 1 14 13) 0 14 8))), .scr []]) := ⟨by kernel_rfl, by kernel_rfl, by kernel_rfl, by kernel_rfl, by kernel_rfl, by kernel_rfl, by kernel_rfl, by kernel_rfl, by kernel_rfl, by kernel_rfl, by kernel_rfl, by kernel_rfl, by kernel_rfl, by kernel_rfl⟩
theorem pr8_9 (t : D) (x5 x6 x7 x8 x9 x10 : Option RV) (o : Orc) : (Fb t (S8 x5 x6 x7 x8 x9 x10) [.orc (Orc.upd (Orc.upd o 1 14 0) 0 14 9), .scr []] = .ok (.nxt (S8 (V (.tuple [.str "winsorized", .int 4])) (V t) x7 x8 x9 (V (.tuple [.str "trimmed", .int 0])))) [.orc (Orc.tl (Orc.tl (Orc.upd (Orc.upd o 1 14 0) 0 14 9))), .scr []]) ∧ (Fb t (S8 x5 x6 x7 x8 x9 x10) [.orc (Orc.upd (Orc.upd o 1 14 1) 0 14 9), .scr []] = .ok (.nxt (S8 (V (.tuple [.str "winsorized", .int 4])) (V t) x7 x8 x9 (V (.tuple [.str "trimmed", .int 1])))) [.orc (Orc.tl (Orc.tl (Orc.upd (Orc.upd o 1 14 1) 0 14 9))), .scr []]) ∧ (Fb t (S8 x5 x6 x7 x8 x9 x10) [.orc (Orc.upd (Orc.upd o 1 14 2) 0 14 9), .scr []] = .ok (.nxt (S8 (V (.tuple [.str "winsorized", .int 4])) (V t) x7 x8 x9 (V (.tuple [.str "trimmed", .int 2])))) [.orc (Orc.tl (Orc.tl (Orc.upd (Orc.upd o 1 14 2) 0 14 9))), .scr []]) ∧ (Fb t (S8 x5 x6 x7 x8 x9 x10) [.orc (Orc.upd (Orc.upd o 1 14 3) 0 14 9), .scr []] = .ok (.nxt (S8 (V (.tuple [.str "winsorized", .int 4])) (V t) x7 x8 x9 (V (.tuple [.str "trimmed", .int 3])))) [.orc (Orc.tl (Orc.tl (Orc.upd (Orc.upd o 1 14 3) 0 14 9))), .scr []]) ∧ (Fb t (S8 x5 x6 x7 x8 x9 x10) [.orc (Orc.upd (Orc.upd o 1 14 4) 0 14 9), .scr []] = .ok (.nxt (S8 (V (.tuple [.str "winsorized", .int 4])) (V t) x7 x8 x9 (V (.tuple [.str "trimmed", .int 4])))) [.orc (Orc.tl (Orc.tl (Orc.upd (Orc.upd o 1 14 4) 0 14 9))), .scr []]) ∧ (Fb t (S8 x5 x6 x7 x8 x9 x10) [.orc (Orc.upd (Orc.upd o 1 14 5) 0 14 9), .scr []] = .ok (.nxt (S8 (V (.tuple [.str "winsorized", .int 4])) (V t) x7 x8 x9 (V (.tuple [.str "winsorized", .int 0])))) [.orc (Orc.tl (Orc.tl (Orc.upd (Orc.upd o 1 14 5) 0 14 9))), .scr []]) ∧ (Fb t (S8 x5 x6 x7 x8 x9 x10) [.orc (Orc.upd (Orc.upd o 1 14 6) 0 14 9), .scr []] = .ok (.nxt (S8 (V (.tuple [.str "winsorized", .int 4])) (V t) x7 x8 x9 (V (.tuple [.str "winsorized", .int 1])))) [.orc (Orc.tl (Orc.tl (Orc.upd (Orc.upd o 1 14 6) 0 14 9))), .scr []]) ∧ (Fb t (S8 x5 x6 x7 x8 x9 x10) [.orc (Orc.upd (Orc.upd o 1 14 7) 0 14 9), .scr []] = .ok (.nxt (S8 (V (.tuple [.str "winsorized", .int 4])) (V t) x7 x8 x9 (V (.tuple [.str "winsorized", .int 2])))) [.orc (Orc.tl (Orc.tl (Orc.upd (Orc.upd o 1 14 7) 0 14 9))), .scr []]) ∧ (Fb t (S8 x5 x6 x7 x8 x9 x10) [.orc (Orc.upd (Orc.upd o 1 14 8) 0 14 9), .scr []] = .ok (.nxt (S8 (V (.tuple [.str "winsorized", .int 4])) (V t) x7 x8 x9 (V (.tuple [.str "winsorized", .int 3])))) [.orc (Orc.tl (Orc.tl (Orc.upd (Orc.upd o 1 14 8) 0 14 9))), .scr []]) ∧ (Fb t (S8 x5 x6 x7 x8 x9 x10) [.orc (Orc.upd (Orc.upd o 1 14 9) 0 14 9), .scr []] = .ok (.nxt (S8 (V (.tuple [.str "winsorized", .int 4])) (V t) x7 x8 x9 (V (.tuple [.str "winsorized", .int 4])))) [.orc (Orc.tl (Orc.tl (Orc.upd (Orc.upd o 1 14 9) 0 14 9))), .scr []]) ∧ (Fb t (S8 x5 x6 x7 x8 x9 x10) [.orc (Orc.upd (Orc.upd o 1 14 10) 0 14 9), .scr []] = .ok (.nxt (S8 (V (.tuple [.str "winsorized", .int 4])) (V t) x7 x8 x9 (V (.tuple [.str "pairs", .int 0])))) [.orc (Orc.tl (Orc.tl (Orc.upd (Orc.upd o 1 14 10) 0 14 9))), .scr []]) ∧ (Fb t (S8 x5 x6 x7 x8 x9 x10) [.orc (Orc.upd (Orc.upd o 1 14 11) 0 14 9), .scr []] = .ok (.nxt (S8 (V (.tuple [.str "winsorized", .int 4])) (V t) x7 x8 x9 (V (.tuple [.str "groups", .int 1])))) [.orc (Orc.tl (Orc.tl (Orc.upd (Orc.upd o 1 14 11) 0 14 9))), .scr []]) ∧ (Fb t (S8 x5 x6 x7 x8 x9 x10) [.orc (Orc.upd (Orc.upd o 1 14 12) 0 14 9), .scr []] = .ok (.nxt (S8 (V (.tuple [.str "winsorized", .int 4])) (V t) x7 x8 x9 (V (.tuple [.str "groups", .int 3])))) [.orc (Orc.tl (Orc.tl (Orc.upd (Orc.upd o 1 14 12) 0 14 9))), .scr []]) ∧ (Fb t (S8 x5 x6 x7 x8 x9 x10) [.orc (Orc.upd (Orc.upd o 1 14 13) 0 14 9), .scr []] = .ok (.nxt (S8 (V (.tuple [.str "winsorized", .int 4])) (V t) x7 x8 x9 (V (.tuple [.str "groups", .int 9])))) [.orc (Orc.tl (Orc.tl (Orc.upd (Orc.upd o 1 14 13) 0 14 9))), .scr []]) := ⟨by kernel_rfl, by kernel_rfl, by kernel_rfl, by kernel_rfl, by kernel_rfl, by kernel_rfl, by kernel_rfl, by kernel_rfl, by kernel_rfl, by kernel_rfl, by kernel_rfl, by kernel_rfl, by kernel_rfl, by kernel_rfl⟩
theorem pr8_10 (t : D) (x5 x6 x7 x8 x9 x10 : Option RV) (o : Orc) : (Fb t (S8 x5 x6 x7 x8 x9 x10) [.orc (Orc.upd (Orc.upd o 1 14 0) 0 14 10), .scr []] = .ok (.nxt (S8 (V (.tuple [.str "pairs", .int 0])) (V t) x7 x8 x9 (V (.tuple [.str "trimmed", .int 0])))) [.orc (Orc.tl (Orc.tl (Orc.upd (Orc.upd o 1 14 0) 0 14 10))), .scr []]) ∧ (Fb t (S8 x5 x6 x7 x8 x9 x10) [.orc (Orc.upd (Orc.upd o 1 14 1) 0 14 10), .scr []] = .ok (.nxt (S8 (V (.tuple [.str "pairs", .int 0])) (V t) x7 x8 x9 (V (.tuple [.str "trimmed", .int 1])))) [.orc (Orc.tl (Orc.tl (Orc.upd (Orc.upd o 1 14 1) 0 14 10))), .scr []]) ∧ (Fb t (S8 x5 x6 x7 x8 x9 x10) [.orc (Orc.upd (Orc.upd o 1 14 2) 0 14 10), .scr []] = .ok (.nxt (S8 (V (.tuple [.str "pairs", .int 0])) (V t) x7 x8 x9 (V (.tuple [.str "trimmed", .int 2])))) [.orc (Orc.tl (Orc.tl (Orc.upd (Orc.upd o 1 14 2) 0 14 10))), .scr []]) ∧ (Fb t (S8 x5 x6 x7 x8 x9 x10) [.orc (Orc.upd (Orc.upd o 1 14 3) 0 14 10), .scr []] = .ok (.nxt (S8 (V (.tuple [.str "pairs", .int 0])) (V t) x7 x8 x9 (V (.tuple [.str "trimmed", .int 3])))) [.orc (Orc.tl (Orc.tl (Orc.upd (Orc.upd o 1 14 3) 0 14 10))), .scr []]) ∧ (Fb t (S8 x5 x6 x7 x8 x9 x10) [.orc (Orc.upd (Orc.upd o 1 14 4) 0 14 10), .scr []] = .ok (.nxt (S8 (V (.tuple [.str "pairs", .int 0])) (V t) x7 x8 x9 (V (.tuple [.str "trimmed", .int 4])))) [.orc (Orc.tl (Orc.tl (Orc.upd (Orc.upd o 1 14 4) 0 14 10))), .scr []]) ∧ (Fb t (S8 x5 x6 x7 x8 x9 x10) [.orc (Orc.upd (Orc.upd o 1 14 5) 0 14 10), .scr []] = .ok (.nxt (S8 (V (.tuple [.str "pairs", .int 0])) (V t) x7 x8 x9 (V (.tuple [.str "winsorized", .int 0])))) [.orc (Orc.tl (Orc.tl (Orc.upd (Orc.upd o 1 14 5) 0 14 10))), .scr []]) ∧ (Fb t (S8 x5 x6 x7 x8 x9 x10) [.orc (Orc.upd (Orc.upd o 1 14 6) 0 14 10), .scr []] = .ok (.nxt (S8 (V (.tuple [.str "pairs", .int 0])) (V t) x7 x8 x9 (V (.tuple [.str "winsorized", .int 1])))) [.orc (Orc.tl (Orc.tl (Orc.upd (Orc.upd o 1 14 6) 0 14 10))), .scr []]) ∧ (Fb t (S8 x5 x6 x7 x8 x9 x10) [.orc (Orc.upd (Orc.upd o 1 14 7) 0 14 10), .scr []] = .ok (.nxt (S8 (V (.tuple [.str "pairs", .int 0])) (V t) x7 x8 x9 (V (.tuple [.str "winsorized", .int 2])))) [.orc (Orc.tl (Orc.tl (Orc.upd (Orc.upd o 1 14 7) 0 14 10))), .scr []]) ∧ (Fb t (S8 x5 x6 x7 x8 x9 x10) [.orc (Orc.upd (Orc.upd o 1 14 8) 0 14 10), .scr []] = .ok (.nxt (S8 (V (.tuple [.str "pairs", .int 0])) (V t) x7 x8 x9 (V (.tuple [.str "winsorized", .int 3])))) [.orc (Orc.tl (Orc.tl (Orc.upd (Orc.upd o 1 14 8) 0 14 10))), .scr []]) ∧ (Fb t (S8 x5 x6 x7 x8 x9 x10) [.orc (Orc.upd (Orc.upd o 1 14 9) 0 14 10), .scr []] = .ok (.nxt (S8 (V (.tuple [.str "pairs", .int 0])) (V t) x7 x8 x9 (V (.tuple [.str "winsorized", .int 4])))) [.orc (Orc.tl (Orc.tl (Orc.upd (Orc.upd o 1 14 9) 0 14 10))), .scr []]) ∧ (Fb t (S8 x5 x6 x7 x8 x9 x10) [.orc (Orc.upd (Orc.upd o 1 14 10) 0 14 10), .scr []] = .ok (.nxt (S8 (V (.tuple [.str "pairs", .int 0])) (V t) x7 x8 x9 (V (.tuple [.str "pairs", .int 0])))) [.orc (Orc.tl (Orc.tl (Orc.upd (Orc.upd o 1 14 10) 0 14 10))), .scr []]) ∧ (Fb t (S8 x5 x6 x7 x8 x9 x10) [.orc (Orc.upd (Orc.upd o 1 14 11) 0 14 10), .scr []] = .ok (.nxt (S8 (V (.tuple [.str "pairs", .int 0])) (V t) x7 x8 x9 (V (.tuple [.str "groups", .int 1])))) [.orc (Orc.tl (Orc.tl (Orc.upd (Orc.upd o 1 14 11) 0 14 10))), .scr []]) ∧ (Fb t (S8 x5 x6 x7 x8 x9 x10) [.orc (Orc.upd (Orc.upd o 1 14 12) 0 14 10), .scr []] = .ok (.nxt (S8 (V (.tuple [.str "pairs", .int 0])) (V t) x7 x8 x9 (V (.tuple [.str "groups", .int 3])))) [.orc (Orc.tl (Orc.tl (Orc.upd (Orc.upd o 1 14 12) 0 14 10))), .scr []]) ∧ (Fb t (S8 x5 x6 x7 x8 x9 x10) [.orc (Orc.upd (Orc.upd o 1 14 13) 0 14 10), .scr []] = .ok (.nxt (S8 (V (.tuple [.str "pairs", .int 0])) (V t) x7 x8 x9 (V (.tuple [.str "groups", .int 9])))) [.orc (Orc.tl (Orc.tl (Orc.upd (Orc.upd o 1 14 13) 0 14 10))), .scr []]) := ⟨by kernel_rfl, by kernel_rfl, by kernel_rfl, by kernel_rfl, by kernel_rfl, by kernel_rfl, by kernel_rfl, by kernel_rfl, by kernel_rfl, by kernel_rfl, by kernel_rfl, by kernel_rfl, by kernel_rfl, by kernel_rfl⟩
theorem pr8_11 (t : D) (x5 x6 x7 x8 x9 x10 : Option RV) (o : Orc) : (Fb t (S8 x5 x6 x7 x8 x9 x10) [.orc (Orc.upd (Orc.upd o 1 14 0) 0 14 11), .scr []] = .ok (.nxt (S8 (V (.tuple [.str "groups", .int 1])) (V t) x7 x8 x9 (V (.tuple [.str "trimmed", .int 0])))) [.orc (Orc.tl (Orc.tl (Orc.upd (Orc.upd o 1 14 0) 0 14 11))), .scr []]) ∧ (Fb t (S8 x5 x6 x7 x8 x9 x10) [.orc (Orc.upd (Orc.upd o 1 14 1) 0 14 11), .scr []] = .ok (.nxt (S8 (V (.tuple [.str "groups", .int 1])) (V t) x7 x8 x9 (V (.tuple [.str "trimmed", .int 1])))) [.orc (Orc.tl (Orc.tl (Orc.upd (Orc.upd o 1 14 1) 0 14 11))), .scr []]) ∧ (Fb t (S8 x5 x6 x7 x8 x9 x10) [.orc (Orc.upd (Orc.upd o 1 14 2) 0 14 11), .scr []] = .ok (.nxt (S8 (V (.tuple [.str "groups", .int 1])) (V t) x7 x8 x9 (V (.tuple [.str "trimmed", .int 2])))) [.orc (Orc.tl (Orc.tl (Orc.upd (Orc.upd o 1 14 2) 0 14 11))), .scr []]) ∧ (Fb t (S8 x5 x6 x7 x8 x9 x10) [.orc (Orc.upd (Orc.upd o 1 14 3) 0 14 11), .scr []] = .ok (.nxt (S8 (V (.tuple [.str "groups", .int 1])) (V t) x7 x8 x9 (V (.tuple [.str "trimmed", .int 3])))) [.orc (Orc.tl (Orc.tl (Orc.upd (Orc.upd o 1 14 3) 0 14 11))), .scr []]) ∧ (Fb t (S8 x5 x6 x7 x8 x9 x10) [.orc (Orc.upd (Orc.upd o 1 14 4) 0 14 11), .scr []] = .ok (.nxt (S8 (V (.tuple [.str "groups", .int 1])) (V t) x7 x8 x9 (V (.tuple [.str "trimmed", .int 4])))) [.orc (Orc.tl (Orc.tl (Orc.upd (Orc.upd o 1 14 4) 0 14 11))), .scr []]) ∧ (Fb t (S8 x5 x6 x7 x8 x9 x10) [.orc (Orc.upd (Orc.upd o 1 14 5) 0 14 11), .scr []] = .ok (.nxt (S8 (V (.tuple [.str "groups", .int 1])) (V t) x7 x8 x9 (V (.tuple [.str "winsorized", .int 0])))) [.orc (Orc.tl (Orc.tl (Orc.upd (Orc.upd o 1 14 5) 0 14 11))), .scr []]) ∧ (Fb t (S8 x5 x6 x7 x8 x9 x10) [.orc (Orc.upd (Orc.upd o 1 14 6) 0 14 11), .scr []] = .ok (.nxt (S8 (V (.tuple [.str "groups", .int 1])) (V t) x7 x8 x9 (V (.tuple [.str "winsorized", .int 1])))) [.orc (Orc.tl (Orc.tl (Orc.upd (Orc.upd o 1 14 6) 0 14 11))), .scr []]) ∧ (Fb t (S8 x5 x6 x7 x8 x9 x10) [.orc (Orc.upd (Orc.upd o 1 14 7) 0 14 11), .scr []] = .ok (.nxt (S8 (V (.tuple [.str "groups", .int 1])) (V t) x7 x8 x9 (V (.tuple [.str "winsorized", .int 2])))) [.orc (Orc.tl (Orc.tl (Orc.upd (Orc.upd o 1 14 7) 0 14 11))), .scr []]) ∧ (Fb t (S8 x5 x6 x7 x8 x9 x10) [.orc (Orc.upd (Orc.upd o 1 14 8) 0 14 11), .scr []] = .ok (.nxt (S8 (V (.tuple [.str "groups", .int 1])) (V t) x7 x8 x9 (V (.tuple [.str "winsorized", .int 3])))) [.orc (Orc.tl (Orc.tl (Orc.upd (Orc.upd o 1 14 8) 0 14 11))), .scr []]) ∧ (Fb t (S8 x5 x6 x7 x8 x9 x10) [.orc (Orc.upd (Orc.upd o 1 14 9) 0 14 11), .scr []] = .ok (.nxt (S8 (V (.tuple [.str "groups", .int 1])) (V t) x7 x8 x9 (V (.tuple [.str "winsorized", .int 4])))) [.orc (Orc.tl (Orc.tl (Orc.upd (Orc.upd o 1 14 9) 0 14 11))), .scr []]) ∧ (Fb t (S8 x5 x6 x7 x8 x9 x10) [.orc (Orc.upd (Orc.upd o 1 14 10) 0 14 11), .scr []] = .ok (.nxt (S8 (V (.tuple [.str "groups", .int 1])) (V t) x7 x8 x9 (V (.tuple [.str "pairs", .int 0])))) [.orc (Orc.tl (Orc.tl (Orc.upd (Orc.upd o 1 14 10) 0 14 11))), .scr []]) ∧ (Fb t (S8 x5 x6 x7 x8 x9 x10) [.orc (Orc.upd (Orc.upd o 1 14 11) 0 14 11), .scr []] = .ok (.nxt (S8 (V (.tuple [.str "groups", .int 1])) (V t) x7 x8 x9 (V (.tuple [.str "groups", .int 1])))) [.orc (Orc.tl (Orc.tl (Orc.upd (Orc.upd o 1 14 11) 0 14 11))), .scr []]) ∧ (Fb t (S8 x5 x6 x7 x8 x9 x10) [.orc (Orc.upd (Orc.upd o 1 14 12) 0 14 11), .scr []] = .ok (.nxt (S8 (V (.tuple [.str "groups", .int 1])) (V t) x7 x8 x9 (V (.tuple [.str "groups", .int 3])))) [.orc (Orc.tl (Orc.tl (Orc.upd (Orc.upd o 1 14 12) 0 14 11))), .scr []]) ∧ (Fb t (S8 x5 x6 x7 x8 x9 x10) [.orc (Orc.upd (Orc.upd o 1 14 13) 0 14 11), .scr []] = .ok (.nxt (S8 (V (.tuple [.str "groups", .int 1])) (V t) x7 x8 x9 (V (.tuple [.str "groups", .int 9])))) [.orc (Orc.tl (Orc.tl (Orc.upd (Orc.upd o 1 14 13) 0 14 11))), .scr []]) := ⟨by kernel_rfl, by kernel_rfl, by kernel_rfl, by kernel_rfl, by kernel_rfl, by kernel_rfl, by kernel_rfl, by kernel_rfl, by kernel_rfl, by kernel_rfl, by kernel_rfl, by kernel_rfl, by kernel_rfl, by kernel_rfl⟩
theorem pr8_12 (t : D) (x5 x6 x7 x8 x9 x10 : Option RV) (o : Orc) : (Fb t (S8 x5 x6 x7 x8 x9 x10) [.orc (Orc.upd (Orc.upd o 1 14 0) 0 14 12), .scr []] = .ok (.nxt (S8 (V (.tuple [.str "groups", .int 3])) (V t) x7 x8 x9 (V (.tuple [.str "trimmed", .int 0])))) [.orc (Orc.tl (Orc.tl (Orc.upd (Orc.upd o 1 14 0) 0 14 12))), .scr []]) ∧ (Fb t (S8 x5 x6 x7 x8 x9 x10) [.orc (Orc.upd (Orc.upd o 1 14 1) 0 14 12), .scr []] = .ok (.nxt (S8 (V (.tuple [.str "groups", .int 3])) (V t) x7 x8 x9 (V (.tuple [.str "trimmed", .int 1])))) [.orc (Orc.tl (Orc.tl (Orc.upd (Orc.upd o 1 14 1) 0 14 12))), .scr []]) ∧ (Fb t (S8 x5 x6 x7 x8 x9 x10) [.orc (Orc.upd (Orc.upd o 1 14 2) 0 14 12), .scr []] = .ok (.nxt (S8 (V (.tuple [.str "groups", .int 3])) (V t) x7 x8 x9 (V (.tuple [.str "trimmed", .int 2])))) [.orc (Orc.tl (Orc.tl (Orc.upd (Orc.upd o 1 14 2) 0 14 12))), .scr []]) ∧ (Fb t (S8 x5 x6 x7 x8 x9 x10) [.orc (Orc.upd (Orc.upd o 1 14 3) 0 14 12), .scr []] = .ok (.nxt (S8 (V (.tuple [.str "groups", .int 3])) (V t) x7 x8 x9 (V (.tuple [.str "trimmed", .int 3])))) [.orc (Orc.tl (Orc.tl (Orc.upd (Orc.upd o 1 14 3) 0 14 12))), .scr []]) ∧ (Fb t (S8 x5 x6 x7 x8 x9 x10) [.orc (Orc.upd (Orc.upd o 1 14 4) 0 14 12), .scr []] = .ok (.nxt (S8 (V (.tuple [.str "groups", .int 3])) (V t) x7 x8 x9 (V (.tuple [.str "trimmed", .int 4])))) [.orc (Orc.tl (Orc.tl (Orc.upd (Orc.upd o 1 14 4) 0 14 12))), .scr []]) ∧ (Fb t (S8 x5 x6 x7 x8 x9 x10) [.orc (Orc.upd (Orc.upd o 1 14 5) 0 14 12), .scr []] = .ok (.nxt (S8 (V (.tuple [.str "groups", .int 3])) (V t) x7 x8 x9 (V (.tuple [.str "winsorized", .int 0])))) [.orc (Orc.tl (Orc.tl (Orc.upd (Orc.upd o 1 14 5) 0 14 12))), .scr []]) ∧ (Fb t (S8 x5 x6 x7 x8 x9 x10) [.orc (Orc.upd (Orc.upd o 1 14 6) 0 14 12), .scr []] = .ok (.nxt (S8 (V (.tuple [.str "groups", .int 3])) (V t) x7 x8 x9 (V (.tuple [.str "winsorized", .int 1])))) [.orc (Orc.tl (Orc.tl (Orc.upd (Orc.upd o 1 14 6) 0 14 12))), .scr []]) ∧ (Fb t (S8 x5 x6 x7 x8 x9 x10) [.orc (Orc.upd (Orc.upd o 1 14 7) 0 14 12), .scr []] = .ok (.nxt (S8 (V (.tuple [.str "groups", .int 3])) (V t) x7 x8 x9 (V (.tuple [.str "winsorized", .int 2])))) [.orc (Orc.tl (Orc.tl (Orc.upd (Orc.upd o 1 14 7) 0 14 12))), .scr []]) ∧ (Fb t (S8 x5 x6 x7 x8 x9 x10) [.orc (Orc.upd (Orc.upd o 1 14 8) 0 14 12), .scr []] = .ok (.nxt (S8 (V (.tuple [.str "groups", .int 3])) (V t) x7 x8 x9 (V (.tuple [.str "winsorized", .int 3])))) [.orc (Orc.tl (Orc.tl (Orc.upd (Orc.upd o 1 14 8) 0 14 12))), .scr []]) ∧ (Fb t (S8 x5 x6 x7 x8 x9 x10) [.orc (Orc.upd (Orc.upd o 1 14 9) 0 14 12), .scr []] = .ok (.nxt (S8 (V (.tuple [.str "groups", .int 3])) (V t) x7 x8 x9 (V (.tuple [.str "winsorized", .int 4])))) [.orc (Orc.tl (Orc.tl (Orc.upd (Orc.upd o 1 14 9) 0 14 12))), .scr []]) ∧ (Fb t (S8 x5 x6 x7 x8 x9 x10) [.orc (Orc.upd (Orc.upd o 1 14 10) 0 14 12), .scr []] = .ok (.nxt (S8 (V (.tuple [.str "groups", .int 3])) (V t) x7 x8 x9 (V (.tuple [.str "pairs", .int 0])))) [.orc (Orc.tl (Orc.tl (Orc.upd (Orc.upd o 1 14 10) 0 14 12))), .scr []]) ∧ (Fb t (S8 x5 x6 x7 x8 x9 x10) [.orc (Orc.upd (Orc.upd o 1 14 11) 0 14 12), .scr []] = .ok (.nxt (S8 (V (.tuple [.str "groups", .int 3])) (V t) x7 x8 x9 (V (.tuple [.str "groups", .int 1])))) [.orc (Orc.tl (Orc.tl (Orc.upd (Orc.upd o 1 14 11) 0 14 12))), .scr []]) ∧ (Fb t (S8 x5 x6 x7 x8 x9 x10) [.orc (Orc.upd (Orc.upd o 1 14 12) 0 14 12), .scr []] = .ok (.nxt (S8 (V (.tuple [.str "groups", .int 3])) (V t) x7 x8 x9 (V (.tuple [.str "groups", .int 3])))) [.orc (Orc.tl (Orc.tl (Orc.upd (Orc.upd o 1 14 12) 0 14 12))), .scr []]) ∧ (Fb t (S8 x5 x6 x7 x8 x9 x10) [.orc (Orc.upd (Orc.upd o 1 14 13) 0 14 12), .scr []] = .ok (.nxt (S8 (V (.tuple [.str "groups", .int 3])) (V t) x7 x8 x9 (V (.tuple [.str "groups", .int 9])))) [.orc (Orc.tl (Orc.tl (Orc.upd (Orc.upd o 1 14 13) 0 14 12))), .scr []]) := ⟨by kernel_rfl, by kernel_rfl, by kernel_rfl, by kernel_rfl, by kernel_rfl, by kernel_rfl, by kernel_rfl, by kernel_rfl, by kernel_rfl, by kernel_rfl, by kernel_rfl, by kernel_rfl, by kernel_rfl, by kernel_rfl⟩
theorem pr8_13 (t : D) (x5 x6 x7 x8 x9 x10 : Option RV) (o : Orc) : (Fb t (S8 x5 x6 x7 x8 x9 x10) [.orc (Orc.upd (Orc.upd o 1 14 0) 0 14 13), .scr []] = .ok (.nxt (S8 (V (.tuple [.str "groups", .int 9])) (V t) x7 x8 x9 (V (.tuple [.str "trimmed", .int 0])))) [.orc (Orc.tl (Orc.tl (Orc.upd (Orc.upd o 1 14 0) 0 14 13))), .scr []]) ∧ (Fb t (S8 x5 x6 x7 x8 x9 x10) [.orc (Orc.upd (Orc.upd o 1 14 1) 0 14 13), .scr []] = .ok (.nxt (S8 (V (.tuple [.str "groups", .int 9])) (V t) x7 x8 x9 (V (.tuple [.str "trimmed", .int 1])))) [.orc (Orc.tl (Orc.tl (Orc.upd (Orc.upd o 1 14 1) 0 14 13))), .scr []]) ∧ (Fb t (S8 x5 x6 x7 x8 x9 x10) [.orc (Orc.upd (Orc.upd o 1 14 2) 0 14 13), .scr []] = .ok (.nxt (S8 (V (.tuple [.str "groups", .int 9])) (V t) x7 x8 x9 (V (.tuple [.str "trimmed", .int 2])))) [.orc (Orc.tl (Orc.tl (Orc.upd (Orc.upd o 1 14 2) 0 14 13))), .scr []]) ∧ (Fb t (S8 x5 x6 x7 x8 x9 x10) [.orc (Orc.upd (Orc.upd o 1 14 3) 0 14 13), .scr []] = .ok (.nxt (S8 (V (.tuple [.str "groups", .int 9])) (V t) x7 x8 x9 (V (.tuple [.str "trimmed", .int 3])))) [.orc (Orc.tl (Orc.tl (Orc.upd (Orc.upd o 1 14 3) 0 14 13))), .scr []]) ∧ (Fb t (S8 x5 x6 x7 x8 x9 x10) [.orc (Orc.upd (Orc.upd o 1 14 4) 0 14 13), .scr []] = .ok (.nxt (S8 (V (.tuple [.str "groups", .int 9])) (V t) x7 x8 x9 (V (.tuple [.str "trimmed", .int 4])))) [.orc (Orc.tl (Orc.tl (Orc.upd (Orc.upd o 1 14 4) 0 14 13))), .scr []]) ∧ (Fb t (S8 x5 x6 x7 x8 x9 x10) [.orc (Orc.upd (Orc.upd o 1 14 5) 0 14 13), .scr []] = .ok (.nxt (S8 (V (.tuple [.str "groups", .int 9])) (V t) x7 x8 x9 (V (.tuple [.str "winsorized", .int 0])))) [.orc (Orc.tl (Orc.tl (Orc.upd (Orc.upd o 1 14 5) 0 14 13))), .scr []]) ∧ (Fb t (S8 x5 x6 x7 x8 x9 x10) [.orc (Orc.upd (Orc.upd o 1 14 6) 0 14 13), .scr []] = .ok (.nxt (S8 (V (.tuple [.str "groups", .int 9])) (V t) x7 x8 x9 (V (.tuple [.str "winsorized", .int 1])))) [.orc (Orc.tl (Orc.tl (Orc.upd (Orc.upd o 1 14 6) 0 14 13))), .scr []]) ∧ (Fb t (S8 x5 x6 x7 x8 x9 x10) [.orc (Orc.upd (Orc.upd o 1 14 7) 0 14 13), .scr []] = .ok (.nxt (S8 (V (.tuple [.str "groups", .int 9])) (V t) x7 x8 x9 (V (.tuple [.str "winsorized", .int 2])))) [.orc (Orc.tl (Orc.tl (Orc.upd (Orc.upd o 1 14 7) 0 14 13))), .scr []]) ∧ (Fb t (S8 x5 x6 x7 x8 x9 x10) [.orc (Orc.upd (Orc.upd o 1 14 8) 0 14 13), .scr []] = .ok (.nxt (S8 (V (.tuple [.str "groups", .int 9])) (V t) x7 x8 x9 (V (.tuple [.str "winsorized", .int 3])))) [.orc (Orc.tl (Orc.tl (Orc.upd (Orc.upd o 1 14 8) 0 14 13))), .scr []]) ∧ (Fb t (S8 x5 x6 x7 x8 x9 x10) [.orc (Orc.upd (Orc.upd o 1 14 9) 0 14 13), .scr []] = .ok (.nxt (S8 (V (.tuple [.str "groups", .int 9])) (V t) x7 x8 x9 (V (.tuple [.str "winsorized", .int 4])))) [.orc (Orc.tl (Orc.tl (Orc.upd (Orc.upd o 1 14 9) 0 14 13))), .scr []]) ∧ (Fb t (S8 x5 x6 x7 x8 x9 x10) [.orc (Orc.upd (Orc.upd o 1 14 10) 0 14 13), .scr []] = .ok (.nxt (S8 (V (.tuple [.str "groups", .int 9])) (V t) x7 x8 x9 (V (.tuple [.str "pairs", .int 0])))) [.orc (Orc.tl (Orc.tl (Orc.upd (Orc.upd o 1 14 10) 0 14 13))), .scr []]) ∧ (Fb t (S8 x5 x6 x7 x8 x9 x10) [.orc (Orc.upd (Orc.upd o 1 14 11) 0 14 13), .scr []] = .ok (.nxt (S8 (V (.tuple [.str "groups", .int 9])) (V t) x7 x8 x9 (V (.tuple [.str "groups", .int 1])))) [.orc (Orc.tl (Orc.tl (Orc.upd (Orc.upd o 1 14 11) 0 14 13))), .scr []]) ∧ (Fb t (S8 x5 x6 x7 x8 x9 x10) [.orc (Orc.upd (Orc.upd o 1 14 12) 0 14 13), .scr []] = .ok (.nxt (S8 (V (.tuple [.str "groups", .int 9])) (V t) x7 x8 x9 (V (.tuple [.str "groups", .int 3])))) [.orc (Orc.tl (Orc.tl (Orc.upd (Orc.upd o 1 14 12) 0 14 13))), .scr []]) ∧ (Fb t (S8 x5 x6 x7 x8 x9 x10) [.orc (Orc.upd (Orc.upd o 1 14 13) 0 14 13), .scr []] = .ok (.nxt (S8 (V (.tuple [.str "groups", .int 9])) (V t) x7 x8 x9 (V (.tuple [.str "groups", .int 9])))) [.orc (Orc.tl (Orc.tl (Orc.upd (Orc.upd o 1 14 13) 0 14 13))), .scr []]) := ⟨by kernel_rfl, by kernel_rfl, by kernel_rfl, by kernel_rfl, by kernel_rfl, by kernel_rfl, by kernel_rfl, by kernel_rfl, by kernel_rfl, by kernel_rfl, by kernel_rfl, by kernel_rfl, by kernel_rfl, by kernel_rfl⟩
theorem pr8 (t : D) (x5 x6 x7 x8 x9 x10 : Option RV) (o : Orc) (ho : OkO o) : ∃ y5 y10, Fb t (S8 x5 x6 x7 x8 x9 x10) [.orc o, .scr []] = .ok (.nxt (S8 y5 (V t) x7 x8 x9 y10)) [.orc (Orc.tl (Orc.tl o)), .scr []] := by
  have h0 := ho 0 14 (by decide)
  have h1 := ho 1 14 (by decide)
  have e := Orc.upd_self o 1 14
  have e2 := Orc.upd_self o 0 14
  generalize o 0 14 = a at h0 e2
  generalize o 1 14 = b at h1 e
  have ea : a = 0 ∨ a = 1 ∨ a = 2 ∨ a = 3 ∨ a = 4 ∨ a = 5 ∨ a = 6 ∨ a = 7 ∨ a = 8 ∨ a = 9 ∨ a = 10 ∨ a = 11 ∨ a = 12 ∨ a = 13 := by omega
  have eb : b = 0 ∨ b = 1 ∨ b = 2 ∨ b = 3 ∨ b = 4 ∨ b = 5 ∨ b = 6 ∨ b = 7 ∨ b = 8 ∨ b = 9 ∨ b = 10 ∨ b = 11 ∨ b = 12 ∨ b = 13 := by omega
  rcases ea with rfl | rfl | rfl | rfl | rfl | rfl | rfl | rfl | rfl | rfl | rfl | rfl | rfl | rfl
  · obtain ⟨k0, k1, k2, k3, k4, k5, k6, k7, k8, k9, k10, k11, k12, k13⟩ := pr8_0 t x5 x6 x7 x8 x9 x10 o
    rcases eb with rfl | rfl | rfl | rfl | rfl | rfl | rfl | rfl | rfl | rfl | rfl | rfl | rfl | rfl
    · rw [e, e2] at k0; exact ⟨_, _, k0⟩
    · rw [e, e2] at k1; exact ⟨_, _, k1⟩
    · rw [e, e2] at k2; exact ⟨_, _, k2⟩
    · rw [e, e2] at k3; exact ⟨_, _, k3⟩
    · rw [e, e2] at k4; exact ⟨_, _, k4⟩
    · rw [e, e2] at k5; exact ⟨_, _, k5⟩
    · rw [e, e2] at k6; exact ⟨_, _, k6⟩
    · rw [e, e2] at k7; exact ⟨_, _, k7⟩
    · rw [e, e2] at k8; exact ⟨_, _, k8⟩
    · rw [e, e2] at k9; exact ⟨_, _, k9⟩
    · rw [e, e2] at k10; exact ⟨_, _, k10⟩
    · rw [e, e2] at k11; exact ⟨_, _, k11⟩
    · rw [e, e2] at k12; exact ⟨_, _, k12⟩
    · rw [e, e2] at k13; exact ⟨_, _, k13⟩
  · obtain ⟨k0, k1, k2, k3, k4, k5, k6, k7, k8, k9, k10, k11, k12, k13⟩ := pr8_1 t x5 x6 x7 x8 x9 x10 o
    rcases eb with rfl | rfl | rfl | rfl | rfl | rfl | rfl | rfl | rfl | rfl | rfl | rfl | rfl | rfl
    · rw [e, e2] at k0; exact ⟨_, _, k0⟩
    · rw [e, e2] at k1; exact ⟨_, _, k1⟩
    · rw [e, e2] at k2; exact ⟨_, _, k2⟩
    · rw [e, e2] at k3; exact ⟨_, _, k3⟩
    · rw [e, e2] at k4; exact ⟨_, _, k4⟩
    · rw [e, e2] at k5; exact ⟨_, _, k5⟩
    · rw [e, e2] at k6; exact ⟨_, _, k6⟩
    · rw [e, e2] at k7; exact ⟨_, _, k7⟩
    · rw [e, e2] at k8; exact ⟨_, _, k8⟩
    · rw [e, e2] at k9; exact ⟨_, _, k9⟩
    · rw [e, e2] at k10; exact ⟨_, _, k10⟩
    · rw [e, e2] at k11; exact ⟨_, _, k11⟩
    · rw [e, e2] at k12; exact ⟨_, _, k12⟩
    · rw [e, e2] at k13; exact ⟨_, _, k13⟩
  · obtain ⟨k0, k1, k2, k3, k4, k5, k6, k7, k8, k9, k10, k11, k12, k13⟩ := pr8_2 t x5 x6 x7 x8 x9 x10 o
    rcases eb with rfl | rfl | rfl | rfl | rfl | rfl | rfl | rfl | rfl | rfl | rfl | rfl | rfl | rfl
    · rw [e, e2] at k0; exact ⟨_, _, k0⟩
    · rw [e, e2] at k1; exact ⟨_, _, k1⟩
    · rw [e, e2] at k2; exact ⟨_, _, k2⟩
    · rw [e, e2] at k3; exact ⟨_, _, k3⟩
    · rw [e, e2] at k4; exact ⟨_, _, k4⟩
    · rw [e, e2] at k5; exact ⟨_, _, k5⟩
    · rw [e, e2] at k6; exact ⟨_, _, k6⟩
    · rw [e, e2] at k7; exact ⟨_, _, k7⟩
    · rw [e, e2] at k8; exact ⟨_, _, k8⟩
    · rw [e, e2] at k9; exact ⟨_, _, k9⟩
    · rw [e, e2] at k10; exact ⟨_, _, k10⟩
    · rw [e, e2] at k11; exact ⟨_, _, k11⟩
    · rw [e, e2] at k12; exact ⟨_, _, k12⟩
    · rw [e, e2] at k13; exact ⟨_, _, k13⟩
  · obtain ⟨k0, k1, k2, k3, k4, k5, k6, k7, k8, k9, k10, k11, k12, k13⟩ := pr8_3 t x5 x6 x7 x8 x9 x10 o
    rcases eb with rfl | rfl | rfl | rfl | rfl | rfl | rfl | rfl | rfl | rfl | rfl | rfl | rfl | rfl
    · rw [e, e2] at k0; exact ⟨_, _, k0⟩
    · rw [e, e2] at k1; exact ⟨_, _, k1⟩
    · rw [e, e2] at k2; exact ⟨_, _, k2⟩
    · rw [e, e2] at k3; exact ⟨_, _, k3⟩
    · rw [e, e2] at k4; exact ⟨_, _, k4⟩
    · rw [e, e2] at k5; exact ⟨_, _, k5⟩
    · rw [e, e2] at k6; exact ⟨_, _, k6⟩
    · rw [e, e2] at k7; exact ⟨_, _, k7⟩
    · rw [e, e2] at k8; exact ⟨_, _, k8⟩
    · rw [e, e2] at k9; exact ⟨_, _, k9⟩
    · rw [e, e2] at k10; exact ⟨_, _, k10⟩
    · rw [e, e2] at k11; exact ⟨_, _, k11⟩
    · rw [e, e2] at k12; exact ⟨_, _, k12⟩
    · rw [e, e2] at k13; exact ⟨_, _, k13⟩
  · obtain ⟨k0, k1, k2, k3, k4, k5, k6, k7, k8, k9, k10, k11, k12, k13⟩ := pr8_4 t x5 x6 x7 x8 x9 x10 o
    rcases eb with rfl | rfl | rfl | rfl | rfl | rfl | rfl | rfl | rfl | rfl | rfl | rfl | rfl | rfl
    · rw [e, e2] at k0; exact ⟨_, _, k0⟩
    · rw [e, e2] at k1; exact ⟨_, _, k1⟩
    · rw [e, e2] at k2; exact ⟨_, _, k2⟩
    · rw [e, e2] at k3; exact ⟨_, _, k3⟩
    · rw [e, e2] at k4; exact ⟨_, _, k4⟩
    · rw [e, e2] at k5; exact ⟨_, _, k5⟩
    · rw [e, e2] at k6; exact ⟨_, _, k6⟩
    · rw [e, e2] at k7; exact ⟨_, _, k7⟩
    · rw [e, e2] at k8; exact ⟨_, _, k8⟩
    · rw [e, e2] at k9; exact ⟨_, _, k9⟩
    · rw [e, e2] at k10; exact ⟨_, _, k10⟩
    · rw [e, e2] at k11; exact ⟨_, _, k11⟩
    · rw [e, e2] at k12; exact ⟨_, _, k12⟩
    · rw [e, e2] at k13; exact ⟨_, _, k13⟩
  · obtain ⟨k0, k1, k2, k3, k4, k5, k6, k7, k8, k9, k10, k11, k12, k13⟩ := pr8_5 t x5 x6 x7 x8 x9 x10 o
    rcases eb with rfl | rfl | rfl | rfl | rfl | rfl | rfl | rfl | rfl | rfl | rfl | rfl | rfl | rfl
    · rw [e, e2] at k0; exact ⟨_, _, k0⟩
    · rw [e, e2] at k1; exact ⟨_, _, k1⟩
    · rw [e, e2] at k2; exact ⟨_, _, k2⟩
    · rw [e, e2] at k3; exact ⟨_, _, k3⟩
    · rw [e, e2] at k4; exact ⟨_, _, k4⟩
    · rw [e, e2] at k5; exact ⟨_, _, k5⟩
    · rw [e, e2] at k6; exact ⟨_, _, k6⟩
    · rw [e, e2] at k7; exact ⟨_, _, k7⟩
    · rw [e, e2] at k8; exact ⟨_, _, k8⟩
    · rw [e, e2] at k9; exact ⟨_, _, k9⟩
    · rw [e, e2] at k10; exact ⟨_, _, k10⟩
    · rw [e, e2] at k11; exact ⟨_, _, k11⟩
    · rw [e, e2] at k12; exact ⟨_, _, k12⟩
    · rw [e, e2] at k13; exact ⟨_, _, k13⟩
  · obtain ⟨k0, k1, k2, k3, k4, k5, k6, k7, k8, k9, k10, k11, k12, k13⟩ := pr8_6 t x5 x6 x7 x8 x9 x10 o
    rcases eb with rfl | rfl | rfl | rfl | rfl | rfl | rfl | rfl | rfl | rfl | rfl | rfl | rfl | rfl
    · rw [e, e2] at k0; exact ⟨_, _, k0⟩
    · rw [e, e2] at k1; exact ⟨_, _, k1⟩
    · rw [e, e2] at k2; exact ⟨_, _, k2⟩
    · rw [e, e2] at k3; exact ⟨_, _, k3⟩
    · rw [e, e2] at k4; exact ⟨_, _, k4⟩
    · rw [e, e2] at k5; exact ⟨_, _, k5⟩
    · rw [e, e2] at k6; exact ⟨_, _, k6⟩
    · rw [e, e2] at k7; exact ⟨_, _, k7⟩
    · rw [e, e2] at k8; exact ⟨_, _, k8⟩
    · rw [e, e2] at k9; exact ⟨_, _, k9⟩
    · rw [e, e2] at k10; exact ⟨_, _, k10⟩
    · rw [e, e2] at k11; exact ⟨_, _, k11⟩
    · rw [e, e2] at k12; exact ⟨_, _, k12⟩
    · rw [e, e2] at k13; exact ⟨_, _, k13⟩
  · obtain ⟨k0, k1, k2, k3, k4, k5, k6, k7, k8, k9, k10, k11, k12, k13⟩ := pr8_7 t x5 x6 x7 x8 x9 x10 o
    rcases eb with rfl | rfl | rfl | rfl | rfl | rfl | rfl | rfl | rfl | rfl | rfl | rfl | rfl | rfl
    · rw [e, e2] at k0; exact ⟨_, _, k0⟩
    · rw [e, e2] at k1; exact ⟨_, _, k1⟩
    · rw [e, e2] at k2; exact ⟨_, _, k2⟩
    · rw [e, e2] at k3; exact ⟨_, _, k3⟩
    · rw [e, e2] at k4; exact ⟨_, _, k4⟩
    · rw [e, e2] at k5; exact ⟨_, _, k5⟩
    · rw [e, e2] at k6; exact ⟨_, _, k6⟩
    · rw [e, e2] at k7; exact ⟨_, _, k7⟩
    · rw [e, e2] at k8; exact ⟨_, _, k8⟩
    · rw [e, e2] at k9; exact ⟨_, _, k9⟩
    · rw [e, e2] at k10; exact ⟨_, _, k10⟩
    · rw [e, e2] at k11; exact ⟨_, _, k11⟩
    · rw [e, e2] at k12; exact ⟨_, _, k12⟩
    · rw [e, e2] at k13; exact ⟨_, _, k13⟩
  · obtain ⟨k0, k1, k2, k3, k4, k5, k6, k7, k8, k9, k10, k11, k12, k13⟩ := pr8_8 t x5 x6 x7 x8 x9 x10 o
    rcases eb with rfl | rfl | rfl | rfl | rfl | rfl | rfl | rfl | rfl | rfl | rfl | rfl | rfl | rfl
    · rw [e, e2] at k0; exact ⟨_, _, k0⟩
    · rw [e, e2] at k1; exact ⟨_, _, k1⟩
    · rw [e, e2] at k2; exact ⟨_, _, k2⟩
    · rw [e, e2] at k3; exact ⟨_, _, k3⟩
    · rw [e, e2] at k4; exact ⟨_, _, k4⟩
    · rw [e, e2] at k5; exact ⟨_, _, k5⟩
    · rw [e, e2] at k6; exact ⟨_, _, k6⟩
    · rw [e, e2] at k7; exact ⟨_, _, k7⟩
    · rw [e, e2] at k8; exact ⟨_, _, k8⟩
    · rw [e, e2] at k9; exact ⟨_, _, k9⟩
    · rw [e, e2] at k10; exact ⟨_, _, k10⟩
    · rw [e, e2] at k11; exact ⟨_, _, k11⟩
    · rw [e, e2] at k12; exact ⟨_, _, k12⟩
    · rw [e, e2] at k13; exact ⟨_, _, k13⟩
  · obtain ⟨k0, k1, k2, k3, k4, k5, k6, k7, k8, k9, k10, k11, k12, k13⟩ := pr8_9 t x5 x6 x7 x8 x9 x10 o
    rcases eb with rfl | rfl | rfl | rfl | rfl | rfl | rfl | rfl | rfl | rfl | rfl | rfl | rfl | rfl
    · rw [e, e2] at k0; exact ⟨_, _, k0⟩
    · rw [e, e2] at k1; exact ⟨_, _, k1⟩
    · rw [e, e2] at k2; exact ⟨_, _, k2⟩
    · rw [e, e2] at k3; exact ⟨_, _, k3⟩
    · rw [e, e2] at k4; exact ⟨_, _, k4⟩
    · rw [e, e2] at k5; exact ⟨_, _, k5⟩
    · rw [e, e2] at k6; exact ⟨_, _, k6⟩
    · rw [e, e2] at k7; exact ⟨_, _, k7⟩
    · rw [e, e2] at k8; exact ⟨_, _, k8⟩
    · rw [e, e2] at k9; exact ⟨_, _, k9⟩
    · rw [e, e2] at k10; exact ⟨_, _, k10⟩
    · rw [e, e2] at k11; exact ⟨_, _, k11⟩
    · rw [e, e2] at k12; exact ⟨_, _, k12⟩
    · rw [e, e2] at k13; exact ⟨_, _, k13⟩
  · obtain ⟨k0, k1, k2, k3, k4, k5, k6, k7, k8, k9, k10, k11, k12, k13⟩ := pr8_10 t x5 x6 x7 x8 x9 x10 o
    rcases eb with rfl | rfl | rfl | rfl | rfl | rfl | rfl | rfl | rfl | rfl | rfl | rfl | rfl | rfl
    · rw [e, e2] at k0; exact ⟨_, _, k0⟩
    · rw [e, e2] at k1; exact ⟨_, _, k1⟩
    · rw [e, e2] at k2; exact ⟨_, _, k2⟩
    · rw [e, e2] at k3; exact ⟨_, _, k3⟩
    · rw [e, e2] at k4; exact ⟨_, _, k4⟩
    · rw [e, e2] at k5; exact ⟨_, _, k5⟩
    · rw [e, e2] at k6; exact ⟨_, _, k6⟩
    · rw [e, e2] at k7; exact ⟨_, _, k7⟩
    · rw [e, e2] at k8; exact ⟨_, _, k8⟩
    · rw [e, e2] at k9; exact ⟨_, _, k9⟩
    · rw [e, e2] at k10; exact ⟨_, _, k10⟩
    · rw [e, e2] at k11; exact ⟨_, _, k11⟩
    · rw [e, e2] at k12; exact ⟨_, _, k12⟩
    · rw [e, e2] at k13; exact ⟨_, _, k13⟩
  · obtain ⟨k0, k1, k2, k3, k4, k5, k6, k7, k8, k9, k10, k11, k12, k13⟩ := pr8_11 t x5 x6 x7 x8 x9 x10 o
    rcases eb with rfl | rfl | rfl | rfl | rfl | rfl | rfl | rfl | rfl | rfl | rfl | rfl | rfl | rfl
    · rw [e, e2] at k0; exact ⟨_, _, k0⟩
    · rw [e, e2] at k1; exact ⟨_, _, k1⟩
    · rw [e, e2] at k2; exact ⟨_, _, k2⟩
    · rw [e, e2] at k3; exact ⟨_, _, k3⟩
    · rw [e, e2] at k4; exact ⟨_, _, k4⟩
    · rw [e, e2] at k5; exact ⟨_, _, k5⟩
    · rw [e, e2] at k6; exact ⟨_, _, k6⟩
    · rw [e, e2] at k7; exact ⟨_, _, k7⟩
    · rw [e, e2] at k8; exact ⟨_, _, k8⟩
    · rw [e, e2] at k9; exact ⟨_, _, k9⟩
    · rw [e, e2] at k10; exact ⟨_, _, k10⟩
    · rw [e, e2] at k11; exact ⟨_, _, k11⟩
    · rw [e, e2] at k12; exact ⟨_, _, k12⟩
    · rw [e, e2] at k13; exact ⟨_, _, k13⟩
  · obtain ⟨k0, k1, k2, k3, k4, k5, k6, k7, k8, k9, k10, k11, k12, k13⟩ := pr8_12 t x5 x6 x7 x8 x9 x10 o
    rcases eb with rfl | rfl | rfl | rfl | rfl | rfl | rfl | rfl | rfl | rfl | rfl | rfl | rfl | rfl
    · rw [e, e2] at k0; exact ⟨_, _, k0⟩
    · rw [e, e2] at k1; exact ⟨_, _, k1⟩
    · rw [e, e2] at k2; exact ⟨_, _, k2⟩
    · rw [e, e2] at k3; exact ⟨_, _, k3⟩
    · rw [e, e2] at k4; exact ⟨_, _, k4⟩
    · rw [e, e2] at k5; exact ⟨_, _, k5⟩
    · rw [e, e2] at k6; exact ⟨_, _, k6⟩
    · rw [e, e2] at k7; exact ⟨_, _, k7⟩
    · rw [e, e2] at k8; exact ⟨_, _, k8⟩
    · rw [e, e2] at k9; exact ⟨_, _, k9⟩
    · rw [e, e2] at k10; exact ⟨_, _, k10⟩
    · rw [e, e2] at k11; exact ⟨_, _, k11⟩
    · rw [e, e2] at k12; exact ⟨_, _, k12⟩
    · rw [e, e2] at k13; exact ⟨_, _, k13⟩
  · obtain ⟨k0, k1, k2, k3, k4, k5, k6, k7, k8, k9, k10, k11, k12, k13⟩ := pr8_13 t x5 x6 x7 x8 x9 x10 o
    rcases eb with rfl | rfl | rfl | rfl | rfl | rfl | rfl | rfl | rfl | rfl | rfl | rfl | rfl | rfl
    · rw [e, e2] at k0; exact ⟨_, _, k0⟩
    · rw [e, e2] at k1; exact ⟨_, _, k1⟩
    · rw [e, e2] at k2; exact ⟨_, _, k2⟩
    · rw [e, e2] at k3; exact ⟨_, _, k3⟩
    · rw [e, e2] at k4; exact ⟨_, _, k4⟩
    · rw [e, e2] at k5; exact ⟨_, _, k5⟩
    · rw [e, e2] at k6; exact ⟨_, _, k6⟩
    · rw [e, e2] at k7; exact ⟨_, _, k7⟩
    · rw [e, e2] at k8; exact ⟨_, _, k8⟩
    · rw [e, e2] at k9; exact ⟨_, _, k9⟩
    · rw [e, e2] at k10; exact ⟨_, _, k10⟩
    · rw [e, e2] at k11; exact ⟨_, _, k11⟩
    · rw [e, e2] at k12; exact ⟨_, _, k12⟩
    · rw [e, e2] at k13; exact ⟨_, _, k13⟩
theorem sfs8 (x5 x6 x9 x10 : Option RV) (o : Orc) : (execs (ex exF G) (B.drop 9) (S8 x5 x6 none none x9 x10) [.orc (Orc.upd o 0 10 0), .scr []] = .ok (.ret (.val (.bool true))) [.orc (Orc.tl (Orc.upd o 0 10 0)), .scr []]) ∧ (execs (ex exF G) (B.drop 9) (S8 x5 x6 none none x9 x10) [.orc (Orc.upd o 0 10 1), .scr []] = .ok (.ret (.val (.bool true))) [.orc (Orc.tl (Orc.upd o 0 10 1)), .scr []]) ∧ (execs (ex exF G) (B.drop 9) (S8 x5 x6 none none x9 x10) [.orc (Orc.upd o 0 10 2), .scr []] = .ok (.ret (.val (.bool true))) [.orc (Orc.tl (Orc.upd o 0 10 2)), .scr []]) ∧ (execs (ex exF G) (B.drop 9) (S8 x5 x6 none none x9 x10) [.orc (Orc.upd o 0 10 3), .scr []] = .ok (.ret (.val (.bool true))) [.orc (Orc.tl (Orc.upd o 0 10 3)), .scr []]) ∧ (execs (ex exF G) (B.drop 9) (S8 x5 x6 none none x9 x10) [.orc (Orc.upd o 0 10 4), .scr []] = .ok (.ret (.val (.bool true))) [.orc (Orc.tl (Orc.upd o 0 10 4)), .scr []]) ∧ (execs (ex exF G) (B.drop 9) (S8 x5 x6 none none x9 x10) [.orc (Orc.upd o 0 10 5), .scr []] = .ok (.ret (.val (.bool true))) [.orc (Orc.tl (Orc.upd o 0 10 5)), .scr []]) ∧ (execs (ex exF G) (B.drop 9) (S8 x5 x6 none none x9 x10) [.orc (Orc.upd o 0 10 6), .scr []] = .ok (.ret (.val (.bool true))) [.orc (Orc.tl (Orc.upd o 0 10 6)), .scr []]) ∧ (execs (ex exF G) (B.drop 9) (S8 x5 x6 none none x9 x10) [.orc (Orc.upd o 0 10 7), .scr []] = .ok (.ret (.val (.bool true))) [.orc (Orc.tl (Orc.upd o 0 10 7)), .scr []]) ∧ (execs (ex exF G) (B.drop 9) (S8 x5 x6 none none x9 x10) [.orc (Orc.upd o 0 10 8), .scr []] = .ok (.ret (.val (.bool true))) [.orc (Orc.tl (Orc.upd o 0 10 8)), .scr []]) ∧ (execs (ex exF G) (B.drop 9) (S8 x5 x6 none none x9 x10) [.orc (Orc.upd o 0 10 9), .scr []] = .ok (.ret (.val (.bool true))) [.orc (Orc.tl (Orc.upd o 0 10 9)), .scr []]) := ⟨by kernel_rfl, by kernel_rfl, by kernel_rfl, by kernel_rfl, by kernel_rfl, by kernel_rfl, by kernel_rfl, by kernel_rfl, by kernel_rfl, by kernel_rfl⟩
theorem sf8 (x5 x6 x9 x10 : Option RV) (o : Orc) (ho : OkO o) : execs (ex exF G) (B.drop 9) (S8 x5 x6 none none x9 x10) [.orc o, .scr []] = .ok (.ret (.val (.bool true))) [.orc (Orc.tl o), .scr []] := by
  have h0 := ho 0 10 (by decide)
  have e := Orc.upd_self o 0 10
  generalize o 0 10 = a at h0 e
  have ea : a = 0 ∨ a = 1 ∨ a = 2 ∨ a = 3 ∨ a = 4 ∨ a = 5 ∨ a = 6 ∨ a = 7 ∨ a = 8 ∨ a = 9 := by omega
  obtain ⟨k0, k1, k2, k3, k4, k5, k6, k7, k8, k9⟩ := sfs8 x5 x6 x9 x10 o
  rcases ea with rfl | rfl | rfl | rfl | rfl | rfl | rfl | rfl | rfl | rfl
  · rw [e] at k0; exact k0
  · rw [e] at k1; exact k1
  · rw [e] at k2; exact k2
  · rw [e] at k3; exact k3
  · rw [e] at k4; exact k4
  · rw [e] at k5; exact k5
  · rw [e] at k6; exact k6
  · rw [e] at k7; exact k7
  · rw [e] at k8; exact k8
  · rw [e] at k9; exact k9
theorem all8 (o : Orc) (ho : OkO o) (h : o 0 9 = 8) : ∃ w', execs (ex exF G) B [V (spc 0), none, none, none, none, none, none, none, none, none, none] [.orc o] = .ok (.ret (.val (.bool true))) w' := by
  have e0 := Orc.upd_self o 0 9
  rw [h] at e0
  have p := pre8 o
  rw [e0] at p
  have eB : B = B.take 8 ++ (st8 :: B.drop 9) := rfl
  obtain ⟨a5, a10, q1⟩ := pr8 (.int 0) (V (.tuple [.str "groups", .int 9])) none none none (V (.int 0)) none (Orc.tl o) (okO_tl ho)
  obtain ⟨b5, b10, q2⟩ := pr8 (.int 1) a5 (V (.int 0)) none none (V (.int 0)) a10 (Orc.tl (Orc.tl (Orc.tl o))) (okO_tl (okO_tl (okO_tl ho)))
  have hl : ex exF G st8 (S8 (V (.tuple [.str "groups", .int 9])) none none none (V (.int 0)) none) [.orc (Orc.tl o), .scr []] = .ok (.nxt (S8 b5 (V (.int 1)) none none (V (.int 0)) b10)) [.orc (Orc.tl (Orc.tl (Orc.tl (Orc.tl (Orc.tl o))))), .scr []] := by
    rw [lp8]
    show (Fb (.int 0) _ _).bind _ = _
    rw [q1]
    show (Fb (.int 1) _ _).bind _ = _
    rw [q2]
    rfl
  have z := sf8 b5 (V (.int 1)) (V (.int 0)) b10 _ (okO_tl (okO_tl (okO_tl (okO_tl (okO_tl ho)))))
  have k := execs_app (b := st8 :: B.drop 9) p
  rw [← eB] at k
  refine ⟨[.orc (Orc.tl (Orc.tl (Orc.tl (Orc.tl (Orc.tl (Orc.tl o)))))), .scr []], k.trans ?_⟩
  show (ex exF G st8 _ _).bind _ = _
  rw [hl]
  exact z
theorem law_T : ∀ ns : List Int, ns.length ≤ 63 → ∃ w', pg.T 40 "law" [spc 0] [.scr ns] = .ok (.val (.bool true)) w' := by
  refine law_of fun o ho => ?_
  have h0 := ho 0 9 (by decide)
  have hT : pg.TO 40 "law" [spc 0] [.orc o] = outV (execs (ex exF G) B [V (spc 0), none, none, none, none, none, none, none, none, none, none] [.orc o]) := by kernel_rfl
  have key : ∃ w', execs (ex exF G) B [V (spc 0), none, none, none, none, none, none, none, none, none, none] [.orc o] = .ok (.ret (.val (.bool true))) w' := by
    have e : o 0 9 = 0 ∨ o 0 9 = 1 ∨ o 0 9 = 2 ∨ o 0 9 = 3 ∨ o 0 9 = 4 ∨ o 0 9 = 5 ∨ o 0 9 = 6 ∨ o 0 9 = 7 ∨ o 0 9 = 8 := by omega
    rcases e with e | e | e | e | e | e | e | e | e
    · exact all0 o ho e
    · exact all1 o ho e
    · exact all2 o ho e
    · exact all3 o ho e
    · exact all4 o ho e
    · exact all5 o ho e
    · exact all6 o ho e
    · exact all7 o ho e
    · exact all8 o ho e
  obtain ⟨w', k⟩ := key
  rw [hT, k]
  exact ⟨w', rfl⟩
end Row

namespace Row
open PySem PySem.Spec PyProof.Rows L2 TM
abbrev R : PySem.W.OpenRow := PySem.W.OpenLaw.row PySem.Challenge.rw_trimmedmeans_k20_whole_sizes
def fa : List He.Fa := Pg.fa pg
def fn : List He.DefD := Pg.fn pg
abbrev hk : PySem.W.Hook := He.hookD 4 fa fn
def ob (s : PySem.W.SharedT) : He.AlD := He.obsDG 4 fa fn (HandSHeadRun.getT s)
theorem ob_eq (s : PySem.W.SharedT) : ob s = hk.obs s.abs := He.obsDG_eq (HandSHeadRun.getT_eq s)
def loose : List Str := ["is_int", "check_size", "is_rule", "check_rule", "rules_for", "half_borne", "bears_of", "bears", "best_rules", "rules_that_bear", "plain", "are_alike", "_law_start", "_law_draw", "_law_pick", "_law_rules", "_law_bears", "MOST_DATA", "MeanError", "BadRule", "BadNumber"]
theorem run (w : World) : HandSHeadRun.RunEq R (PySem.W.view R.prog [26]) hk ob 3000 loose w := by
  intro os
  kernel_rfl
end Row
open PySem PySem.W PySem.Calls PyProof.Rows
theorem PySem.Challenge.cw_trimmedmeans_k20_whole_sizes_holds : PySem.Challenge.rw_trimmedmeans_k20_whole_sizes.Holds := by
  w_on; o_law
  refine HandSHeadRun.head_any (r := OpenLaw.row PySem.Challenge.rw_trimmedmeans_k20_whole_sizes) (q := view (OpenLaw.row PySem.Challenge.rw_trimmedmeans_k20_whole_sizes).prog [26]) (H := Row.hk) (ob := Row.ob) (M := 3000) (loose := Row.loose) (d := HandSHeadRun.topDef (OpenLaw.row PySem.Challenge.rw_trimmedmeans_k20_whole_sizes).prog 26) (kwd := []) Row.ob_eq
    (by kernel_rfl) (fun s => by kernel_rfl) Row.run (by kernel_rfl) (by kernel_rfl) (by kernel_rfl) (by rfl) (by first | assumption | decide +kernel) (by decide +kernel) ⟨rfl, rfl, rfl, rfl, rfl, by decide +kernel⟩ ?hw ?hc
  case hw => w_witness2
  case hc =>
    refine L2.walk_ofE (l := PySem.Challenge.rw_trimmedmeans_k20_whole_sizes) (n := 63) (k := 40) (x := "script") (CX := L2.CX0) rfl (by decide) (by kernel_rfl) ⟨rfl, by decide, by decide⟩ ?F (fun _ _ _ _ z => z)
    intro w mg fa h Y G hmg0
    obtain ⟨K, KX, c⟩ := Y
    have hmg : mg ("law" : PySem.Str) = some (.ref fa) := by
      have e : (HandSHeadRun.topDef (OpenLaw.row PySem.Challenge.rw_trimmedmeans_k20_whole_sizes).prog 26).name = ("law" : PySem.Str) := by kernel_rfl
      rw [← e]
      exact hmg0
    exact TM.law_ok (pg := Row.pg) (fd := Row.d_law) KX G hmg c ⟨by decide +kernel, by decide +kernel⟩ (by decide +kernel) Row.oks (by rfl) (by rfl) Row.law_T
