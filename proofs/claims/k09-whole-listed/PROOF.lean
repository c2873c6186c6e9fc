import PyProof.Rows.All
import Wide.All
import OpenK.AllK
import Wide.FinOn
import HandS.ForMost
import HandS.ForExc
import HandS.Flow
import HandS.Style
import HandS.Deep
import HandS.Conv
import HandS.IsInst
import HandS.TupAny
import HandS.SortInts
import HandS.SortRule
import HandS.SetFor
import HandS.Walk
import HandS.CallSlots
import HandS.WordsExc
import HandS.ExcOwn
import HandS.ExcIs
import HandS.ExcValue
import HandS.HeadHook1
import HandS.FStr
import PyProof.ExcBaseAll.ValueError
import HandS.CallRecv
import KE.KStateDown
import HandS.Defaults
import HandS.Ends
import HandS.Head0
import HandS.Head1
import HandS.Head2
import HandS.HeadEnd
import HandS.HeadHook2
import PySem.Challenge.RW_trimmedmeans_k09_whole_listed
set_option Elab.async false
set_option linter.all false
set_option maxRecDepth 100000
set_option maxHeartbeats 0
/-! The interpreter: a pure reading of the model's own trees. Lists are values; a list that nobody else holds (own) may be changed. -/
namespace TM
open PySem

abbrev D := PyData
/-- the few objects that live on: the draws, the script -/
inductive WO where
  | drw (ns : List Int) (c : Int)
  | scr (ns : List Int)
  | orc (o : Nat → Int → Int)
  | wat (sz : Int) (nm : Str) (nb : Int) (ns : List Int)
abbrev Wd := List WO
/-- a value as it is held: data that never change; a list that nobody else holds; a list that a slot owns, looked at -/
inductive RV where
  | val (d : D)
  | own (ds : List D)
  | bor (ds : List D)
inductive R (α : Type) where
  | ok (a : α) (w : Wd)
  | exc (c : Str) (w : Wd)
  | bad
def R.bind {α β : Type} (m : R α) (f : α → Wd → R β) : R β := match m with
  | .ok a w => f a w
  | .exc c w => .exc c w
  | .bad => .bad
def R.of {α : Type} (o : Option α) (w : Wd) : R α := match o with
  | some a => .ok a w
  | none => .bad
@[simp] theorem R.bind_ok {α β : Type} (a : α) (w : Wd) (f : α → Wd → R β) : (R.ok a w).bind f = f a w := id rfl
@[simp] theorem R.bind_bad {α β : Type} (f : α → Wd → R β) : (R.bad : R α).bind f = .bad := id rfl
@[simp] theorem R.bind_exc {α β : Type} (c : Str) (w : Wd) (f : α → Wd → R β) : (R.exc c w : R α).bind f = .exc c w := id rfl
@[simp] theorem R.of_some {α : Type} (a : α) (w : Wd) : R.of (some a) w = .ok a w := id rfl
@[simp] theorem R.of_none {α : Type} (w : Wd) : R.of (none : Option α) w = .bad := id rfl

def RV.dat : RV → D
  | .val d => d
  | .own ds => .list ds
  | .bor ds => .list ds
def RV.lst? : RV → Option (List D)
  | .val (.list ds) => some ds
  | .own ds => some ds
  | .bor ds => some ds
  | _ => none
def RV.isBor : RV → Bool
  | .bor _ => true
  | _ => false
@[simp] theorem dat_val (d : D) : (RV.val d).dat = d := id rfl
@[simp] theorem dat_own (d : List D) : (RV.own d).dat = .list d := id rfl
@[simp] theorem dat_bor (d : List D) : (RV.bor d).dat = .list d := id rfl
@[simp] theorem lst_val (d : List D) : (RV.val (.list d)).lst? = some d := id rfl
@[simp] theorem lst_own (d : List D) : (RV.own d).lst? = some d := id rfl
@[simp] theorem lst_bor (d : List D) : (RV.bor d).lst? = some d := id rfl
@[simp] theorem lst_int (i : Int) : (RV.val (.int i)).lst? = none := id rfl
@[simp] theorem lst_str (i : Str) : (RV.val (.str i)).lst? = none := id rfl
@[simp] theorem lst_tup (d : List D) : (RV.val (.tuple d)).lst? = none := id rfl
@[simp] theorem lst_bool (d : Bool) : (RV.val (.bool d)).lst? = none := id rfl
@[simp] theorem lst_none : (RV.val .none).lst? = none := id rfl
@[simp] theorem isBor_val (d : D) : (RV.val d).isBor = false := id rfl
@[simp] theorem isBor_own (d : List D) : (RV.own d).isBor = false := id rfl
@[simp] theorem isBor_bor (d : List D) : (RV.bor d).isBor = true := id rfl

def cap : Nat := 100000
/-- data that may be compared: depth below n, no dict -/
def okD : Nat → D → Bool
  | _, .none => true
  | _, .bool _ => true
  | _, .int _ => true
  | _, .str x => PyData.strOk x
  | n + 1, .list xs => xs.all (okD n)
  | n + 1, .tuple xs => xs.all (okD n)
  | _, _ => false
/-- no list within -/
def noL : Nat → D → Bool
  | _, .none => true
  | _, .bool _ => true
  | _, .int _ => true
  | _, .str _ => true
  | n + 1, .tuple xs => xs.all (noL n)
  | _, _ => false
def flatD : D → Bool
  | .none => true
  | .bool _ => true
  | .int _ => true
  | .str _ => true
  | _ => false
def asInt : D → Option Int
  | .int i => some i
  | _ => none
def asInts : List D → Option (List Int)
  | [] => some []
  | .int i :: r => (asInts r).map (i :: ·)
  | _ :: _ => none
def asPairs : List D → Option (List (Int × Int))
  | [] => some []
  | .tuple [.int i, .int j] :: r => (asPairs r).map ((i, j) :: ·)
  | _ :: _ => none
def asBools : List D → Option (List Bool)
  | [] => some []
  | .bool i :: r => (asBools r).map (i :: ·)
  | _ :: _ => none
def asStrs : List D → Option (List Str)
  | [] => some []
  | .str i :: r => (asStrs r).map (i :: ·)
  | _ :: _ => none
def joinS (x : Str) (ys : List Str) : Str := Txt.join x ys
/-- insertion sort -/
def ins (x : Int) : List Int → List Int
  | [] => [x]
  | y :: r => if x ≤ y then x :: y :: r else y :: ins x r
def srt : List Int → List Int
  | [] => []
  | x :: r => ins x (srt r)
def ple (x y : Int × Int) : Bool := decide (x.1 < y.1) || (decide (x.1 = y.1) && decide (x.2 ≤ y.2))
def insP (x : Int × Int) : List (Int × Int) → List (Int × Int)
  | [] => [x]
  | y :: r => if ple x y then x :: y :: r else y :: insP x r
def srtP : List (Int × Int) → List (Int × Int)
  | [] => []
  | x :: r => insP x (srtP r)
def minL : List Int → Option Int
  | [] => none
  | x :: r => match minL r with
    | none => some x
    | some m => some (if x ≤ m then x else m)
def maxL : List Int → Option Int
  | [] => none
  | x :: r => match maxL r with
    | none => some x
    | some m => some (if m ≤ x then x else m)
/-- the place of the first one that is equal -/
def findD (d : D) : List D → Option Nat
  | [] => none
  | x :: r => if PyData.eqv x d then some 0 else (findD d r).map (· + 1)
def sIx (n d : Nat) : Option Int → Nat := HT.sIx n d
def cut {α : Type} (xs : List α) (lo hi : Option Int) : List α := (xs.drop (HT.sIx xs.length 0 lo)).take (HT.sIx xs.length xs.length hi - HT.sIx xs.length 0 lo)

def mulOk (i j : Int) : Bool := (decide (-(2 ^ 64) < i) && decide (i < 2 ^ 64)) || (decide (-(2 ^ 64) < j) && decide (j < 2 ^ 64))
def divOk (j : Int) : Bool := decide (j ≠ 0) && decide (j.natAbs < 1073741824)
def powOk (i j : Int) : Bool := decide (0 ≤ j) && decide (j ≤ 1000000) && decide (i.natAbs < 2 ^ 64)

def addL (a b : RV) : Option RV := match a.lst?, b.lst? with
  | some xs, some ys => if xs.length + ys.length ≤ cap then some (.own (xs ++ ys)) else none
  | _, _ => none
def repL (a : RV) (k : Int) : Option RV := match a.lst? with
  | some xs => if decide (-(2 ^ 63) ≤ k) && decide (k < 2 ^ 63) && decide (xs.length * k.toNat ≤ cap) then some (.own (List.replicate k.toNat xs).flatten) else none
  | none => none
def binop (op : Operator) (a b : RV) : Option RV := match op, a, b with
  | .Add, .val (.int i), .val (.int j) => some (.val (.int (i + j)))
  | .Add, .val (.str x), .val (.str y) => if x.length + y.length ≤ cap then some (.val (.str (x ++ y))) else none
  | .Add, .val (.tuple xs), .val (.tuple ys) => if xs.length + ys.length ≤ cap then some (.val (.tuple (xs ++ ys))) else none
  | .Add, a, b => addL a b
  | .Sub, .val (.int i), .val (.int j) => some (.val (.int (i - j)))
  | .Mult, .val (.int i), .val (.int j) => if mulOk i j then some (.val (.int (i * j))) else none
  | .Mult, a, .val (.int k) => repL a k
  | .FloorDiv, .val (.int i), .val (.int j) => if divOk j then some (.val (.int (i.fdiv j))) else none
  | .Mod, .val (.int i), .val (.int j) => if decide (j ≠ 0) then some (.val (.int (i.fmod j))) else none
  | .Pow, .val (.int i), .val (.int j) => if powOk i j then some (.val (.int (i ^ j.toNat))) else none
  | _, _, _ => none
def eqvOk (a b : D) : Bool := okD 8 a && okD 8 b
def ltInts (a b : RV) : Option Bool := none
def inOp (a b : RV) : Option Bool := match b with
  | .val (.tuple ds) => if flatD a.dat && ds.all flatD then some (ds.any fun z => PyData.eqv z a.dat) else none
  | .val (.str y) => none
  | b => match b.lst? with
    | some ds => if okD 7 a.dat && okD 8 (.list ds) then some (ds.any fun z => PyData.eqv z a.dat) else none
    | none => none
def isOp (a b : RV) : Option Bool := match a, b with
  | .val .none, .val .none => some true
  | .val (.bool x), .val (.bool y) => some (decide (x = y))
  | .val (.bool _), .val .none => some false
  | .val (.int _), .val .none => some false
  | .val (.str _), .val .none => some false
  | .val (.tuple _), .val .none => some false
  | .val (.list _), .val .none => some false
  | .val (.dict _), .val .none => some false
  | .own _, .val .none => some false
  | .bor _, .val .none => some false
  | _, _ => none
def cmpop (op : CmpOp) (a b : RV) : Option Bool := match op with
  | .Eq => if eqvOk a.dat b.dat then some (PyData.eqv a.dat b.dat) else none
  | .NotEq => if eqvOk a.dat b.dat then some (!PyData.eqv a.dat b.dat) else none
  | .Lt => match a, b with
    | .val (.int i), .val (.int j) => some (decide (i < j))
    | _, _ => none
  | .LtE => match a, b with
    | .val (.int i), .val (.int j) => some (decide (i ≤ j))
    | _, _ => none
  | .Gt => match a, b with
    | .val (.int i), .val (.int j) => some (decide (j < i))
    | _, _ => none
  | .GtE => match a, b with
    | .val (.int i), .val (.int j) => some (decide (j ≤ i))
    | _, _ => none
  | .In => inOp a b
  | .NotIn => (inOp a b).map (!·)
  | .Is => isOp a b
  | .IsNot => (isOp a b).map (!·)
def unop (op : UnaryOp) (a : RV) : Option RV := match op, a with
  | .USub, .val (.int i) => some (.val (.int (-i)))
  | .Not, .val (.bool b) => some (.val (.bool (!b)))
  | _, _ => none
/-- a[i] -/
def ixop (a : RV) (b : RV) : Option RV := match b with
  | .val (.int i) => match a with
    | .val (.tuple ds) => (L2.atI ds i).map .val
    | .val (.str z) => none
    | a => match a.lst? with
      | some ds => (L2.atI ds i).map .val
      | none => none
  | _ => none
/-- a[lo:hi] -/
def slop (a : RV) (lo hi : Option Int) : Option RV := match a with
  | .val (.tuple ds) => some (.val (.tuple (cut ds lo hi)))
  | .val (.str z) => if z.length ≤ cap then some (.val (.str (L2.cutS z lo hi))) else none
  | a => match a.lst? with
    | some ds => some (.own (cut ds lo hi))
    | none => none
/-- the builtins -/
inductive Blt where
  | len | abs | sum | min | max | sorted | list | tuple | str | int | all | any | range | isinst
  deriving DecidableEq
def bltTab : List (Str × Blt) := [("len", .len), ("abs", .abs), ("sum", .sum), ("min", .min), ("max", .max), ("sorted", .sorted), ("list", .list), ("tuple", .tuple), ("str", .str), ("int", .int), ("all", .all), ("any", .any), ("range", .range), ("isinstance", .isinst)]
def sortOp (ds : List D) : Option RV := match asInts ds with
  | some ns => some (.own ((srt ns).map .int))
  | none => match asPairs ds with
    | some ps => some (.own ((srtP ps).map fun p => .tuple [.int p.1, .int p.2]))
    | none => none
def bltop (b : Blt) (vs : List RV) : Option RV := match b, vs with
  | .len, [.val (.tuple ds)] => some (.val (.int ds.length))
  | .len, [.val (.str z)] => if z.length ≤ cap then some (.val (.int z.length)) else none
  | .len, [a] => a.lst?.map fun ds => .val (.int ds.length)
  | .abs, [.val (.int i)] => some (.val (.int (if i < 0 then -i else i)))
  | .sum, [a] => (a.lst?.bind asInts).map fun ns => .val (.int ns.sum)
  | .min, [a] => ((a.lst?.bind asInts).bind minL).map fun m => .val (.int m)
  | .max, [a] => ((a.lst?.bind asInts).bind maxL).map fun m => .val (.int m)
  | .min, [.val (.int i), .val (.int j)] => some (.val (.int (if j < i then j else i)))
  | .max, [.val (.int i), .val (.int j)] => some (.val (.int (if j > i then j else i)))
  | .sorted, [a] => a.lst?.bind sortOp
  | .list, [.val (.tuple ds)] => some (.own ds)
  | .list, [a] => a.lst?.map .own
  | .tuple, [.val (.tuple ds)] => some (.val (.tuple ds))
  | .tuple, [a] => a.lst?.map fun ds => .val (.tuple ds)
  | .str, [.val (.int i)] => if i.natAbs.log2 < 1920 then some (.val (.str (toString i))) else none
  | .all, [a] => (a.lst?.bind asBools).map fun bs => .val (.bool (bs.all id))
  | .any, [a] => (a.lst?.bind asBools).map fun bs => .val (.bool (bs.any id))
  | _, _ => none
/-- a value's type -/
def tyStr : RV → Option String
  | .val (.int _) => some "int"
  | .val (.bool _) => some "bool"
  | .val .none => some "NoneType"
  | .val (.str _) => some "str"
  | .val (.tuple _) => some "tuple"
  | .val (.list _) => some "list"
  | .own _ => some "list"
  | .bor _ => some "list"
  | .val (.dict _) => none
def tyTab : List (Str × String) := [("int", "int"), ("bool", "bool"), ("list", "list"), ("tuple", "tuple"), ("str", "str")]
/-- isinstance(x, T) -/
def isTy (a : RV) (t : Str) : Option Bool := match tyStr a with
  | none => none
  | some s => (tyTab.lookup t).map fun T => s == T || (s == "bool" && T == "int")
/-- methods of lists and texts, as values -/
def mtop (m : Str) (a : RV) (vs : List RV) : Option RV :=
  if m = "index" then (match a.lst?, vs with
    | some ds, [b] => if flatD b.dat && ds.all flatD then (findD b.dat ds).map (fun (j : Nat) => RV.val (.int (j : Int))) else none
    | _, _ => none)
  else if m = "count" then (match a.lst?, vs with
    | some ds, [b] => if flatD b.dat && ds.all flatD then some (.val (.int ((ds.countP fun z => PyData.eqv z b.dat : Nat) : Int))) else none
    | _, _ => none)
  else if m = "join" then (match a, vs with
    | .val (.str x), [b] => (match b.lst?.bind asStrs with
      | some ys => if (ys.map (·.length)).sum + ys.length * x.length ≤ cap then some (.val (.str (joinS x ys))) else none
      | none => none)
    | _, _ => none)
  else none

/-- range(..) as a list -/
def rangeL (a b c : Int) : Option (List D) :=
  if decide (0 < c) && decide (c < 1000000) && decide (-1000000 ≤ a) && decide (a ≤ 1000000) && decide (-1000000 ≤ b) && decide (b ≤ 1000000)
  then some ((List.range ((b - a + c - 1) / c).toNat).map fun (i : Nat) => .int (a + (i : Int) * c)) else none
def rangeA : List RV → Option (List D)
  | [.val (.int b)] => rangeL 0 b 1
  | [.val (.int a), .val (.int b)] => rangeL a b 1
  | [.val (.int a), .val (.int b), .val (.int c)] => rangeL a b c
  | _ => none

abbrev Tab := Str → List D → Wd → R RV
abbrev Sl := List (Option RV)
/-- what stands around: the defs' answers, the names of the defs, the module's constants; a def's own: its names by slot, the names whose lists it may change -/
structure Cn where
  T : Tab
  dfn : Str → Bool
  cst : Str → Option D
  N : List Str
  mt : List Str
  xs : Str → Option (List Str) := fun _ => none
  wt : Str → Bool := fun _ => false
/-- the watcher's methods, by the names of their answers -/
def wTab : List (Str × Str) := [("push", "Watcher.push"), ("result", "Watcher.result"), ("change_rule", "Watcher.change_rule"), ("last_values", "Watcher.last_values"), ("undo", "Watcher.undo"), ("__len__", "Watcher.__len__")]
def isWat : Option WO → Bool
  | some (.wat _ _ _ _) => true
  | _ => false
/-- an object of the world -/
def spcK : RV → Option Nat
  | .val (.dict [(.int (.ofNat k), .none)]) => some k
  | _ => none
/-- a caught exception of an own class -/
def exd (c : Str) : D := .dict [(.none, .str c)]
def xnm : RV → Option Str
  | .val (.dict [(.none, .str c)]) => some c
  | _ => none
/-- isinstance(x, t), x perhaps a caught exception -/
def isTyX (xs : Str → Option (List Str)) (a : RV) (t : Str) : Option Bool := match xnm a with
  | some c => (match xs c with
    | some l => if (xs t).isSome || decide (t = "ValueError") then some (l.contains t) else none
    | none => none)
  | none => isTy a t
def idx : List Str → Str → Option Nat
  | [], _ => none
  | y :: r, x => if y = x then some 0 else (idx r x).map (· + 1)

/-! dicts with tuples as keys: held by a slot alone, told as a looked-at list of pairs -/
abbrev Ky := Sum Int Str
def keyD : Ky → D
  | .inl i => .int i
  | .inr x => .str x
def asKey : D → Option Ky
  | .int i => some (.inl i)
  | .str x => some (.inr x)
  | _ => none
def asKeyL : List D → Option (List Ky)
  | [] => some []
  | d :: r => match asKey d, asKeyL r with
    | some k, some ks => some (k :: ks)
    | _, _ => none
def asKeys : D → Option (List Ky)
  | .tuple ds => asKeyL ds
  | _ => none
def ktD (k : List Ky) : D := .tuple (k.map keyD)
abbrev Dct := List (List Ky × D)
def encP (p : List Ky × D) : D := .tuple [ktD p.1, p.2]
def decP : D → Option (List Ky × D)
  | .tuple [k, d] => (asKeys k).map fun ks => (ks, d)
  | _ => none
def decL : List D → Option Dct
  | [] => some []
  | d :: r => match decP d, decL r with
    | some p, some ps => some (p :: ps)
    | _, _ => none
def dgetD (ps : Dct) (k : List Ky) : Option D := (ps.find? fun kv => decide (kv.1 = k)).map (·.2)
def dputD (ps : Dct) (k : List Ky) (d : D) : Dct := if (ps.any fun kv => decide (kv.1 = k)) = true then ps.map (fun kv => if kv.1 = k then (kv.1, d) else kv) else ps ++ [(k, d)]
/-- a name whose slot holds a dict -/
def isDct (G : Cn) (e : Expr) (s : Sl) : Option (Nat × Dct) := match e with
  | .Name y _ => (match idx G.N y with
    | some j => (match s[j]? with
      | some (some (.bor ds)) => (decL ds).map fun ps => (j, ps)
      | _ => none)
    | none => none)
  | _ => none
/-- d.get(k, x) -/
def isDget (G : Cn) (s : Sl) (g : Expr) (args : List Expr) (kws : List Keyword) : Option (Dct × Expr × Expr) := match g with
  | .Attribute o m _ => (match kws, args with
    | [], [a, b] => if m = "get" then (isDct G o s).map fun q => (q.2, a, b) else none
    | _, _ => none)
  | _ => none
/-- {} -/
def isDnew : Expr → Bool
  | .Dict [] [] _ => true
  | _ => false
def isSlice : Expr → Bool
  | .Slice _ _ _ _ => true
  | _ => false
/-- [.. for k in d] -/
def isDcomp (G : Cn) (e : Expr) (s : Sl) : Bool := match e with
  | .ListComp _ [⟨_, iter, _, _⟩] _ _ => (isDct G iter s).isSome
  | _ => false
/-- d[k] = .. -/
def isDst (G : Cn) (s : Sl) (t : Expr) : Option (Nat × Dct × Expr) := match t with
  | .Subscript o b _ => if isSlice b then none else (isDct G o s).map fun q => (q.1, q.2, b)
  | _ => none
def noDct (s : Sl) : Bool := s.all fun o => match o with
  | some (.bor _) => false
  | _ => true

abbrev EvF := Expr → Wd → R RV
def evsW (f : EvF) : List Expr → Wd → R (List RV)
  | [], w => .ok [] w
  | e :: r, w => (f e w).bind fun v w => (evsW f r w).bind fun vs w => .ok (v :: vs) w
def andW (f : EvF) : List Expr → Wd → R RV
  | [], _ => .bad
  | e :: r, w => (f e w).bind fun v w => match v with
    | .val (.bool true) => (match r with | [] => .ok (.val (.bool true)) w | _ :: _ => andW f r w)
    | .val (.bool false) => .ok (.val (.bool false)) w
    | _ => .bad
def orW (f : EvF) : List Expr → Wd → R RV
  | [], _ => .bad
  | e :: r, w => (f e w).bind fun v w => match v with
    | .val (.bool false) => (match r with | [] => .ok (.val (.bool false)) w | _ :: _ => orW f r w)
    | .val (.bool true) => .ok (.val (.bool true)) w
    | _ => .bad
def optW (f : EvF) : Option Expr → Wd → R (Option Int)
  | none, w => .ok none w
  | some e, w => (f e w).bind fun v w => match v with
    | .val (.int i) => .ok (some i) w
    | _ => .bad
/-- no looked-at list among them -/
def datS : List RV → Option (List D)
  | [] => some []
  | .val d :: r => (datS r).map (d :: ·)
  | .own ds :: r => (datS r).map (.list ds :: ·)
  | .bor _ :: _ => none
def noLRV : RV → Bool
  | .val d => noL 8 d
  | .own ds => ds.all (noL 8)
  | .bor _ => false
def frz : RV → Option D
  | .val d => some d
  | .own ds => some (.list ds)
  | .bor _ => none
def boolOf : RV → Option Bool
  | .val (.bool b) => some b
  | _ => none
/-- the answer of a def; a looked-at list must not come back in it -/
def callT (T : Tab) (f : Str) (vs : List RV) (w : Wd) : R RV :=
  (T f (vs.map RV.dat) w).bind fun r w => if vs.any RV.isBor && !noLRV r then .bad else .ok r w
def compL (f : D → Wd → R (Option D)) : List D → Wd → R (List D)
  | [], w => .ok [] w
  | d :: r, w => (f d w).bind fun o w => (compL f r w).bind fun ds w => .ok (match o with | some x => x :: ds | none => ds) w
/-- a comprehension's target takes a value -/
def tgtS (N : List Str) : List Expr → List D → Sl → Option Sl
  | [], ds, s => (match ds with | [] => some s | _ => none)
  | e :: r, ds, s => match e, ds with
    | .Name x _, d :: ds => (match idx N x with
      | some i => tgtS N r ds (s.set i (some (.val d)))
      | none => none)
    | _, _ => none
def tgt (N : List Str) (e : Expr) (d : D) (s : Sl) : Option Sl := match e with
  | .Name x _ => (match idx N x with
    | some i => some (s.set i (some (.val d)))
    | none => none)
  | .Tuple es _ _ => (match d with
    | .tuple ds => tgtS N es ds s
    | _ => none)
  | _ => none
def wipeS (s : Sl) : List Nat → Sl
  | [] => s
  | i :: r => (wipeS s r).set i none
/-- the block's own names, with their slots -/
def ownOf (N : List Str) (sc : Scope) : List (Str × Nat) := sc.names.filterMap fun p => if p.2 = NameKind.local ∨ p.2 = NameKind.cell then (idx N p.1).map fun i => (p.1, i) else none

def cstW (c : Const) (w : Wd) : R RV := match c with
  | .none => .ok (.val .none) w
  | .bool b => .ok (.val (.bool b)) w
  | .int i => .ok (.val (.int i)) w
  | .str x => .ok (.val (.str x)) w
  | _ => .bad
def slotW (o : Option (Option RV)) (w : Wd) : R RV := match o with
  | some (some (.val d)) => .ok (.val d) w
  | some (some (.own ds)) => .ok (.bor ds) w
  | _ => .bad
def nameW (G : Cn) (x : Str) (s : Sl) (w : Wd) : R RV := match idx G.N x with
  | some i => slotW s[i]? w
  | none => R.of ((G.cst x).map .val) w
def binW (f : EvF) (a : Expr) (op : Operator) (b : Expr) (w : Wd) : R RV := (f a w).bind fun x w => (f b w).bind fun y w => R.of (binop op x y) w
def unW (f : EvF) (op : UnaryOp) (a : Expr) (w : Wd) : R RV := (f a w).bind fun x w => R.of (unop op x) w
def boolW (f : EvF) (op : BoolOp) (es : List Expr) (w : Wd) : R RV := match op with
  | .And => andW f es w
  | .Or => orW f es w
def ifW (f : EvF) (t a b : Expr) (w : Wd) : R RV := (f t w).bind fun x w => match boolOf x with
  | some true => (f a w).bind fun y w => R.of ((frz y).map .val) w
  | some false => (f b w).bind fun y w => R.of ((frz y).map .val) w
  | none => .bad
def cmpW (f : EvF) (a : Expr) (ops : List CmpOp) (bs : List Expr) (w : Wd) : R RV := match ops, bs with
  | [op], [b] => (f a w).bind fun x w => (f b w).bind fun y w => R.of ((cmpop op x y).map fun z => .val (.bool z)) w
  | [op, op'], [b, c] => (f a w).bind fun x w => (f b w).bind fun y w => (R.of (cmpop op x y) w).bind fun z w =>
      (match z with
      | true => (f c w).bind fun u w => R.of ((cmpop op' y u).map fun z => .val (.bool z)) w
      | false => .ok (.val (.bool false)) w)
  | _, _ => .bad
def tupW (f : EvF) (es : List Expr) (w : Wd) : R RV := (evsW f es w).bind fun vs w => match datS vs with
  | some ds => if ds.length ≤ cap then .ok (.val (.tuple ds)) w else .bad
  | none => .bad
def lstW (f : EvF) (es : List Expr) (w : Wd) : R RV := (evsW f es w).bind fun vs w => match datS vs with
  | some ds => if ds.length ≤ cap then .ok (.own ds) w else .bad
  | none => .bad
def isNeg1 : Expr → Bool
  | .UnaryOp .USub (.Constant (.int i) _ _) _ => decide (i = 1)
  | _ => false
def subW (f : EvF) (a b : Expr) (w : Wd) : R RV := match b with
  | .Slice lo hi none _ => (f a w).bind fun x w => (optW f lo w).bind fun l w => (optW f hi w).bind fun h w => R.of (slop x l h) w
  | .Slice none none (some st) _ => if isNeg1 st then (f a w).bind fun x w => R.of (x.lst?.map fun ds => .own ds.reverse) w else .bad
  | .Slice _ _ (some _) _ => .bad
  | b => (f a w).bind fun x w => (f b w).bind fun y w => R.of (ixop x y) w
/-- range(..), its arguments -/
def isRange (G : Cn) (e : Expr) : Option (List Expr) := match e with
  | .Call (.Name g _) as [] _ => if !G.dfn g && decide (bltTab.lookup g = some Blt.range) then some as else none
  | _ => none
/-- len of an object of the world -/
def lenS : Blt → List RV → Option Nat
  | .len, [x] => spcK x
  | _, _ => none
def lenK (r : RV) (w : Wd) : R RV := match r with
  | .val (.int n) => if decide (0 ≤ n) && decide (n < 1000000) then .ok (.val (.int n)) w else .bad
  | _ => .bad
def bltR (G : Cn) (b : Blt) (vs : List RV) (w : Wd) : R RV := match lenS b vs with
  | some k => if isWat w[k]? && G.wt "Watcher.__len__" then (G.T "Watcher.__len__" [.dict [(.int (.ofNat k), .none)]] w).bind lenK else .bad
  | none => R.of (bltop b vs) w
def bltW (G : Cn) (f : EvF) (b : Blt) (args : List Expr) (w : Wd) : R RV := match b with
  | .range => .bad
  | .isinst => (match args with
    | [a, .Name t _] => if (idx G.N t).isNone then (f a w).bind fun x w => R.of ((isTyX G.xs x t).map fun z => .val (.bool z)) w else .bad
    | _ => .bad)
  | .list => (match args with
    | [e] => (match isRange G e with
      | some as => (evsW f as w).bind fun vs w => (match vs with
        | [_, _, _] => .bad
        | vs => R.of ((rangeA vs).map .own) w)
      | none => (f e w).bind fun x w => R.of (bltop .list [x]) w)
    | _ => .bad)
  | b => (match args with
    | [] => .bad
    | a :: as => (evsW f (a :: as) w).bind fun vs w => bltR G b vs w)
def callW (G : Cn) (f : EvF) (g : Expr) (args : List Expr) (kws : List Keyword) (w : Wd) : R RV := match kws with
  | _ :: _ => .bad
  | [] => (match g with
    | .Name x _ => if G.dfn x then (evsW f args w).bind fun vs w => callT G.T x vs w
      else (match bltTab.lookup x with
        | some b => bltW G f b args w
        | none => if decide (x = "Watcher") && G.wt "Watcher.__init__" then (evsW f args w).bind fun vs w => (match datS vs with
          | some ds => G.T "Watcher.__init__" ds w
          | none => .bad) else .bad)
    | .Attribute o m _ => (f o w).bind fun x w => (match spcK x with
      | some k => if isWat w[k]? && decide (args.length ≤ 1) then (match wTab.lookup m with
        | some z => if G.wt z then (evsW f args w).bind fun vs w => callT G.T z (x :: vs) w else .bad
        | none => .bad) else .bad
      | none => (match args with
        | [a] => (f a w).bind fun y w => R.of (mtop m x [y]) w
        | _ => .bad))
    | _ => .bad)
def seqOf (x : RV) : Option (List D) := match x with
  | .val (.tuple ds) => some ds
  | x => x.lst?
/-- what is walked; b: a looked-at list too -/
def iterW (b : Bool) (G : Cn) (f : EvF) (e : Expr) (w : Wd) : R (List D) := match isRange G e with
  | some as => (evsW f as w).bind fun vs w => R.of (rangeA vs) w
  | none => (f e w).bind fun x w => if x.isBor && !b then .bad else R.of (seqOf x) w
def ifsW (f : EvF) (ifs : List Expr) (w : Wd) : R Bool := match ifs with
  | [] => .ok true w
  | [c] => (f c w).bind fun x w => R.of (boolOf x) w
  | _ => .bad
def eltW (G : Cn) (f : Sl → EvF) (elt tg : Expr) (ifs : List Expr) (s : Sl) (d : D) (w : Wd) : R (Option D) := match tgt G.N tg d s with
  | none => .bad
  | some s' => (ifsW (f s') ifs w).bind fun b w => (match b with
    | true => (f s' elt w).bind fun x w => R.of ((frz x).map some) w
    | false => .ok none w)
/-- what a comprehension walks -/
def itcW (G : Cn) (f : Sl → EvF) (iter : Expr) (s : Sl) (w : Wd) : R (List D) := match isDct G iter s with
  | some (_, ps) => .ok (ps.map fun p => ktD p.1) w
  | none => iterW true G (f s) iter w
def compW (G : Cn) (f : Sl → EvF) (elt : Expr) (gens : List Comprehension) (sc : Scope) (s : Sl) (w : Wd) : R RV := match gens with
  | [⟨tg, iter, ifs, k⟩] => if k = 0 then
      (itcW G f iter s w).bind fun ds w => (compL (eltW G f elt tg ifs (wipeS s ((ownOf G.N sc).map (·.2)))) ds w).bind fun ds w =>
        if ds.length ≤ cap then .ok (.own ds) w else .bad
      else .bad
  | _ => .bad

/-- the values of a dict -/
def dgetW (f : EvF) (ps : Dct) (a b : Expr) (w : Wd) : R RV := (f a w).bind fun x w => (f b w).bind fun y w => match asKeys x.dat, frz y with
  | some k, some d => .ok (.val ((dgetD ps k).getD d)) w
  | _, _ => .bad
def dixW (f : EvF) (ps : Dct) (b : Expr) (w : Wd) : R RV := (f b w).bind fun x w => match asKeys x.dat with
  | some k => R.of ((dgetD ps k).map .val) w
  | none => .bad
/-- the parts of an f-string -/
def fmtC (v : RV) (w : Wd) : R RV := match v with
  | .val (.str y) => if y.length ≤ cap then .ok (.val (.str y)) w else .bad
  | .val (.int i) => if i.natAbs.log2 < 1920 then .ok (.val (.str (toString i))) w else .bad
  | _ => .bad
def jnW (f : EvF) : List Expr → Str → Wd → R Str
  | [], acc, w => .ok acc w
  | e :: es, acc, w => (f e w).bind fun v w => match v with
    | .val (.str y) => if (acc ++ y).length ≤ cap then jnW f es (acc ++ y) w else .bad
    | _ => .bad
def jstW (f : EvF) (es : List Expr) (w : Wd) : R RV := match es with
  | a :: b :: r => (jnW f (a :: b :: r) Str.empty w).bind fun x w => .ok (.val (.str x)) w
  | _ => .bad
def ev : Nat → Cn → Sl → EvF
  | 0, _, _, _, _ => .bad
  | n + 1, G, s, e, w => match e with
    | .Constant c _ _ => cstW c w
    | .Name x _ => nameW G x s w
    | .BinOp a op b _ => binW (ev n G s) a op b w
    | .UnaryOp op a _ => unW (ev n G s) op a w
    | .BoolOp op es _ => boolW (ev n G s) op es w
    | .IfExp t a b _ => ifW (ev n G s) t a b w
    | .Compare a ops bs _ => cmpW (ev n G s) a ops bs w
    | .Tuple es _ _ => tupW (ev n G s) es w
    | .List es _ => lstW (ev n G s) es w
    | .Subscript a b _ => (match isDct G a s with
      | some (_, ps) => if isSlice b then .bad else dixW (ev n G s) ps b w
      | none => subW (ev n G s) a b w)
    | .Call g args kws _ => (match isDget G s g args kws with
      | some (ps, a, b) => dgetW (ev n G s) ps a b w
      | none => callW G (ev n G s) g args kws w)
    | .ListComp elt gens sc _ => compW G (ev n G) elt gens sc s w
    | .FormattedValue a c none _ => if c = -1 then (ev n G s a w).bind fmtC else .bad
    | .JoinedStr es _ => jstW (ev n G s) es w
    | _ => .bad

/-! ### statements -/
inductive Out where
  | nxt (s : Sl)
  | ret (v : RV)
  | brk (s : Sl)
  | cnt (s : Sl)
  | rs (c : Str) (s : Sl)
/-- a target of an assignment takes a value: a name, or x[i] of an own list -/
def stT (G : Cn) (f : Sl → EvF) (t : Expr) (d : D) (s : Sl) (w : Wd) : R Sl := match t with
  | .Name x _ => (match idx G.N x with
    | some i => .ok (s.set i (some (.val d))) w
    | none => .bad)
  | .Subscript (.Name x _) b _ => (match b with
    | .Slice _ _ _ _ => .bad
    | b => (match idx G.N x with
      | some k => (match s[k]? with
        | some (some (.own ds)) => (f s b w).bind fun y w => (match y with
          | .val (.int i) => (match L2.ixN ds.length i with
            | some j => .ok (s.set k (some (.own (ds.set j d)))) w
            | none => .bad)
          | _ => .bad)
        | _ => .bad)
      | none => .bad))
  | _ => .bad
def stTs (G : Cn) (f : Sl → EvF) : List Expr → List D → Sl → Wd → R Sl
  | [], ds, s, w => (match ds with | [] => .ok s w | _ :: _ => .bad)
  | t :: ts, ds, s, w => match ds with
    | [] => .bad
    | d :: ds => (stT G f t d s w).bind fun s w => stTs G f ts ds s w
/-- a name whose slot owns a list -/
def isOwn (G : Cn) (e : Expr) (s : Sl) : Option (Nat × List D) := match e with
  | .Name y _ => (match idx G.N y with
    | some j => (match s[j]? with
      | some (some (.own ds)) => some (j, ds)
      | _ => none)
    | none => none)
  | _ => none
/-- x = e, e's value held as it comes -/
def asgN (G : Cn) (i : Nat) (x : Str) (v : RV) (s : Sl) (w : Wd) : R Sl := match v with
  | .val d => .ok (s.set i (some (.val d))) w
  | .own ds => if G.mt.contains x then .ok (s.set i (some (.own ds))) w else .ok (s.set i (some (.val (.list ds)))) w
  | .bor _ => .bad
def asgW (G : Cn) (f : Sl → EvF) (t e : Expr) (s : Sl) (w : Wd) : R Sl := match t with
  | .Name x _ => (match idx G.N x with
    | none => .bad
    | some i => if isDnew e then (if noDct s then .ok (s.set i (some (.bor []))) w else .bad) else if isDcomp G e s then .bad else (match isOwn G e s with
      | some (j, ds) => .ok ((s.set j (some (.val (.list ds)))).set i (some (.val (.list ds)))) w
      | none => (f s e w).bind fun v w => asgN G i x v s w))
  | .Tuple ts _ _ => (f s e w).bind fun v w => (match v with
    | .val (.tuple ds) => stTs G f ts ds s w
    | _ => .bad)
  | t => (match isDst G s t with
    | some (k, ps, b) => (f s e w).bind fun v w => (match frz v with
      | some d => (f s b w).bind fun x w => (match asKeys x.dat with
        | some ks => if ps.length < 1000 then .ok (s.set k (some (.bor ((dputD ps ks d).map encP)))) w else .bad
        | none => .bad)
      | none => .bad)
    | none => (f s e w).bind fun v w => (match frz v with
      | some d => stT G f t d s w
      | none => .bad))
/-- a op= b -/
def augop (op : Operator) (a : RV) (b : RV) : Option RV := match op, a with
  | .Add, .own xs => (match b.lst? with
    | some ys => if xs.length + ys.length ≤ cap then some (.own (xs ++ ys)) else none
    | none => none)
  | .Add, .val (.int i) => (match b with
    | .val (.int j) => some (.val (.int (i + j)))
    | _ => none)
  | .Mult, .val (.int i) => (match b with
    | .val (.int j) => if mulOk i j then some (.val (.int (i * j))) else none
    | _ => none)
  | _, _ => none
def augW (G : Cn) (f : Sl → EvF) (t : Expr) (op : Operator) (e : Expr) (s : Sl) (w : Wd) : R Sl := match t with
  | .Name x _ => (match idx G.N x with
    | some i => (match s[i]? with
      | some (some v) => (f s e w).bind fun y w => (match augop op v y with
        | some z => .ok (s.set i (some z)) w
        | none => .bad)
      | _ => .bad)
    | none => .bad)
  | _ => .bad
/-- the methods that change a list -/
def mutop (m : Str) (ds : List D) (d : D) : Option (List D) :=
  if m = "append" then (if ds.length < cap then some (ds ++ [d]) else none)
  else if m = "remove" then (match asInts ds, d with
    | some _, .int _ => (findD d ds).map fun j => ds.eraseIdx j
    | _, _ => none)
  else none
/-- x.m(a) of an own list -/
def mutW (G : Cn) (f : Sl → EvF) (x m : Str) (a : Expr) (s : Sl) (w : Wd) : R Sl := match idx G.N x with
  | some i => (match s[i]? with
    | some (some (.own ds)) => (f s a w).bind fun y w => (match frz y with
      | some d => (match mutop m ds d with
        | some ds' => .ok (s.set i (some (.own ds'))) w
        | none => .bad)
      | none => .bad)
    | _ => .bad)
  | none => .bad
def isMut : Expr → Option (Str × Str × Expr)
  | .Call (.Attribute (.Name x _) m _) [a] [] _ => if m = "append" ∨ m = "remove" then some (x, m, a) else none
  | _ => none
/-- f(..).append(a) -/
def isApp : Expr → Option (Expr × Expr)
  | .Call (.Attribute (.Call g as ks p) m _) [a] [] _ => if m = "append" then some (.Call g as ks p, a) else none
  | _ => none
def appW (G : Cn) (f : Sl → EvF) (c a : Expr) (s : Sl) (w : Wd) : R Sl := (f s c w).bind fun v w => (match v with
  | .own ds => if ds.length < cap then (f s a w).bind fun _ w => .ok s w else .bad
  | _ => .bad)
def exprW (G : Cn) (f : Sl → EvF) (e : Expr) (s : Sl) (w : Wd) : R Sl := match isMut e with
  | some (x, m, a) => mutW G f x m a s w
  | none => (match isApp e with
    | some (c, a) => appW G f c a s w
    | none => (f s e w).bind fun _ w => .ok s w)
/-- a list that is walked stays as it is -/
def frzN (G : Cn) (e : Expr) (s : Sl) : Sl := match e with
  | .Name x _ => (match idx G.N x with
    | some i => (match s[i]? with
      | some (some (.own ds)) => s.set i (some (.val (.list ds)))
      | _ => s)
    | none => s)
  | _ => s
def execs (f : Stmt → Sl → Wd → R Out) : List Stmt → Sl → Wd → R Out
  | [], s, w => .ok (.nxt s) w
  | st :: r, s, w => (f st s w).bind fun o w => match o with
    | .nxt s => execs f r s w
    | o => .ok o w
def forL (f : D → Sl → Wd → R Out) : List D → Sl → Wd → R Out
  | [], s, w => .ok (.nxt s) w
  | d :: r, s, w => (f d s w).bind fun o w => match o with
    | .nxt s => forL f r s w
    | .cnt s => forL f r s w
    | .brk s => .ok (.nxt s) w
    | .ret v => .ok (.ret v) w
    | .rs c s => .ok (.rs c s) w
def whlL (c : Sl → Wd → R Bool) (f : Sl → Wd → R Out) : Nat → Sl → Wd → R Out
  | 0, _, _ => .bad
  | n + 1, s, w => (c s w).bind fun b w => match b with
    | false => .ok (.nxt s) w
    | true => (f s w).bind fun o w => match o with
      | .nxt s => whlL c f n s w
      | .cnt s => whlL c f n s w
      | .brk s => .ok (.nxt s) w
      | .ret v => .ok (.ret v) w
      | .rs c s => .ok (.rs c s) w
def retW (G : Cn) (f : EvF) (e : Expr) (s : Sl) (w : Wd) : R Out := match isOwn G e s with
  | some (_, ds) => .ok (.ret (.own ds)) w
  | none => (f e w).bind fun v w => (match v with
    | .bor _ => .bad
    | v => .ok (.ret v) w)
def tstW (f : EvF) (c : Expr) (w : Wd) : R Bool := (f c w).bind fun x w => R.of (boolOf x) w
/-- how often a while may turn -/
def turns : Nat := 18446744073709551616
def evF : Nat := 40

def okR {α : Type} : R α → Bool
  | .ok _ _ => true
  | _ => false
/-- the class is called -/
def isMk (G : Cn) (x : Str) : Bool := (bltTab.lookup x).isNone && decide (x = "Watcher") && G.wt "Watcher.__init__"
/-- an exception of e comes out of a def that e calls last -/
def topB : Nat → Cn → Sl → Expr → Wd → Bool
  | 0, _, _, _, _ => false
  | n + 1, G, s, e, w => match e with
    | .Call (.Name x _) args [] _ => (G.dfn x || isMk G x) && okR (evsW (ev n G s) args w)
    | .Call (.Attribute (.Name o p) _ _) args [] _ => (match ev n G s (.Name o p) w with
      | .ok x w1 => (spcK x).isSome && okR (evsW (ev n G s) args w1)
      | _ => false)
    | .IfExp t a b _ => (match ev n G s t w with
      | .ok (.val (.bool true)) w => topB n G s a w
      | .ok (.val (.bool false)) w => topB n G s b w
      | _ => false)
    | _ => false
/-- a statement whose exception is that of e -/
def ctch (G : Cn) (e : Expr) (s : Sl) (w : Wd) (m : R Out) : R Out := match m with
  | .exc c w' => if topB evF G s e w then .ok (.rs c s) w' else .bad
  | m => m
def ctchN (G : Cn) (t e : Expr) (s : Sl) (w : Wd) (m : R Out) : R Out := match t with
  | .Name _ _ => ctch G e s w m
  | _ => m
def raisW (G : Cn) (e c : Option Expr) (s : Sl) (w : Wd) : R Out := match e, c with
  | some (.Call (.Name x _) [.Constant (.str _) _ _] [] _), none => if (G.xs x).isSome then .ok (.rs x s) w else .bad
  | _, _ => .bad
/-- what a clause keeps: except x as n: m = n -/
def tryW (G : Cn) (x n m : Str) (r : R Out) : R Out := match r with
  | .ok (.rs c s) w => (match G.xs c, idx G.N n, idx G.N m with
    | some l, some i, some j => if l.contains x && !decide (i = j) then .ok (.nxt ((s.set j (some (.val (exd c)))).set i none)) w else .bad
    | _, _, _ => .bad)
  | r => r
def clause : List ExceptHandler → Option (Str × Str × Str)
  | [.ExceptHandler (some (.Name x _)) (some n) [.Assign [.Name m _] (.Name n' _) _] _] => if n' = n then some (x, n, m) else none
  | _ => none
def ex : Nat → Cn → Stmt → Sl → Wd → R Out
  | 0, _, _, _, _ => .bad
  | n + 1, G, st, s, w => match st with
    | .Assign ts e _ => (match ts with
      | [t] => ctchN G t e s w ((asgW G (ev evF G) t e s w).bind fun s w => .ok (.nxt s) w)
      | _ => .bad)
    | .AugAssign t op e _ => (augW G (ev evF G) t op e s w).bind fun s w => .ok (.nxt s) w
    | .If c a b _ => (tstW (ev evF G s) c w).bind fun x w => (match x with
      | true => execs (ex n G) a s w
      | false => execs (ex n G) b s w)
    | .For tg iter body orelse _ => (match orelse with
      | [] => (iterW false G (ev evF G (frzN G iter s)) iter w).bind fun ds w => forL (fun d s w => match tgt G.N tg d s with
        | some s => execs (ex n G) body s w
        | none => .bad) ds (frzN G iter s) w
      | _ :: _ => .bad)
    | .While c body orelse _ => (match orelse with
      | [] => whlL (fun s w => tstW (ev evF G s) c w) (fun s w => execs (ex n G) body s w) turns s w
      | _ :: _ => .bad)
    | .Return e _ => (match e with
      | none => .ok (.ret (.val .none)) w
      | some e => ctch G e s w (retW G (ev evF G s) e s w))
    | .Expr e _ => ctch G e s w ((exprW G (ev evF G) e s w).bind fun s w => .ok (.nxt s) w)
    | .Raise e c _ => raisW G e c s w
    | .Try body hs orelse fin _ => (match clause hs, orelse, fin with
      | some (x, n', m), [], [] => if (G.xs x).isSome then tryW G x n' m (execs (ex n G) body s w) else .bad
      | _, _, _ => .bad)
    | .Pass _ => .ok (.nxt s) w
    | .Break _ => .ok (.brk s) w
    | .Continue _ => .ok (.cnt s) w
    | _ => .bad

/-! ### a program -/
/-- what a def is: a body, or one of the law's two doers -/
inductive Kd where
  | body | start | draw | wini | wpsh | wres | wchg | wlst | wund | wlen
structure FD where
  kd : Kd
  np : Nat
  N : List Str
  mt : List Str
  st : Stmt
structure Pg where
  fs : List (Str × FD)
  cs : List (Str × D)
  xs : List (Str × List Str) := []
  ws : List (Str × FD) := []
def spc (k : Nat) : D := .dict [(.int k, .none)]
def drawV (ns : List Int) (c limit : Int) : Option (Int × List Int) :=
  match ns[(c.fmod ns.length).toNat]? with
  | none => none
  | some cell => if 1000000000000000000 ≤ cell then some (cell.fmod limit, ns.set (c.fmod ns.length).toNat (cell.fdiv limit))
    else
      let m := (cell + 104729 * c).fmod 4294967291
      let m := (m ^ 5).fmod 4294967279
      some (((m.fdiv 64 * 69621 + m).fmod 4294967231).fdiv 8 |>.fmod limit, ns)
def drawT (vs : List D) (w : Wd) : R RV := match vs with
  | [.dict [(.int (.ofNat k), .none)], .int limit] => (match w[k]? with
    | some (.drw ns c) => if divOk limit && !ns.isEmpty && decide (ns.length ≤ 1000) then (match drawV ns (c + 1) limit with
      | some (v, ns') => .ok (.val (.int v)) (w.set k (.drw ns' (c + 1)))
      | none => .bad) else .bad
    | _ => .bad)
  | _ => .bad
def startT (vs : List D) (w : Wd) : R RV := match vs with
  | [.dict [(.int (.ofNat k), .none)]] => (match w[k]? with
    | some (.scr ns) => if ns.length ≤ 1000 then .ok (.val (spc w.length)) (w ++ [.drw (if ns.isEmpty then [0] else ns) 0]) else .bad
    | _ => .bad)
  | _ => .bad
def slotsOf (N : List Str) (vs : List D) : Sl := vs.map (fun d => some (.val d)) ++ List.replicate (N.length - vs.length) none
def outV (o : R Out) : R RV := match o with
  | .ok (.ret v) w => .ok v w
  | .ok (.nxt _) w => .ok (.val .none) w
  | .ok (.rs c _) w => .exc c w
  | _ => .bad
def exF : Nat := 12
/-- the watcher's doers -/
def spD : D → Option Nat
  | .dict [(.int (.ofNat k), .none)] => some k
  | _ => none
def iniV (a b : D) (w : Wd) : R RV := match a, b with
  | .int sz, .tuple [.str nm, .int nb] => if 2 ≤ w.length then .ok (.val (spc w.length)) (w ++ [.wat sz nm nb []]) else .bad
  | _, _ => .bad
def pshV (T : Tab) (s v : D) (w : Wd) : R RV := match spD s, v with
  | some k, .int i => (match w[k]? with
    | some (.wat sz nm nb ns) => if ns.length < 1000 then T "Watcher.result" [s] (w.set k (.wat sz nm nb (ns ++ [i]))) else .bad
    | _ => .bad)
  | _, _ => .bad
def chgV (T : Tab) (s : D) (k : Nat) (r : D) (w : Wd) : R RV := match r with
  | .tuple [.str nm, .int nb] => (match w[k]? with
    | some (.wat sz _ _ ns) => T "Watcher.result" [s] (w.set k (.wat sz nm nb ns))
    | _ => .bad)
  | _ => .bad
def undV (k : Nat) (w : Wd) : R RV := match w[k]? with
  | some (.wat sz nm nb ns) => (match ns.getLast? with
    | some i => .ok (.val (.int i)) (w.set k (.wat sz nm nb ns.dropLast))
    | none => .exc "NotFound" w)
  | _ => .bad
def watT (T : Tab) (kd : Kd) (vs : List D) (w : Wd) : R RV := match kd, vs with
  | .wini, [a, b] => (T "check_size" [a] w).bind fun _ w => (T "check_rule" [b, a] w).bind fun _ w => iniV a b w
  | .wpsh, [s, v] => (T "check_value" [v] w).bind fun _ w => pshV T s v w
  | .wres, [s] => (match spD s with
    | some k => (match w[k]? with
      | some (.wat sz nm nb ns) => if (ns.length : Int) < sz then .ok (.val .none) w else T "result_of" [.tuple [.str nm, .int nb], .list (cut (ns.map .int) (some (-sz)) none)] w
      | _ => .bad)
    | none => .bad)
  | .wchg, [s, r] => (match spD s with
    | some k => (match w[k]? with
      | some (.wat sz _ _ _) => (T "check_rule" [r, .int sz] w).bind fun _ w => chgV T s k r w
      | _ => .bad)
    | none => .bad)
  | .wlst, [s] => (match spD s with
    | some k => (match w[k]? with
      | some (.wat sz _ _ ns) => .ok (.own (cut (ns.map .int) (some (-sz)) none)) w
      | _ => .bad)
    | none => .bad)
  | .wund, [s] => (match spD s with
    | some k => undV k w
    | none => .bad)
  | .wlen, [s] => (match spD s with
    | some k => (match w[k]? with
      | some (.wat _ _ _ ns) => .ok (.val (.int ns.length)) w
      | _ => .bad)
    | none => .bad)
  | _, _ => .bad
/-- the answers at level n -/
def Pg.T (P : Pg) : Nat → Tab
  | 0, _, _, _ => .bad
  | n + 1, f, vs, w => match P.fs.lookup f with
    | none => (match P.ws.lookup f with
      | none => .bad
      | some fd => watT (P.T n) fd.kd vs w)
    | some fd => if vs.length = fd.np then (match fd.kd with
      | .start => startT vs w
      | .draw => drawT vs w
      | .body => outV (execs (ex exF ⟨P.T n, fun x => (P.fs.lookup x).isSome, fun x => P.cs.lookup x, fd.N, fd.mt, fun x => P.xs.lookup x, fun x => (P.ws.lookup x).isSome⟩) (L2.defBody fd.st) (slotsOf fd.N vs) w)
      | _ => .bad) else .bad
end TM

namespace TM
open PySem L2

/-- the places of the classes by their names -/
class CNm where
  nm : Str → Addr
variable [CNm]
/-- a caught exception of the class at C, at a -/
def ExZ (C a : Addr) : HO := .ext fun h => ∃ (oe : Obj) (vs : Array Value), h.get? a = some oe ∧ Zc (.ref C) none oe ∧ oe.data = .fields vs
/-! ### what stands for what -/
/-- an object of the world by its places -/
inductive GO where
  | drw (a b : Addr)
  | scr (a : Addr)
  | wat (a dx l : Addr)
def GO.main : GO → Addr
  | .drw a _ => a
  | .scr a => a
  | .wat a _ _ => a
def GO.adr : GO → List Addr
  | .drw a b => [a, b]
  | .scr _ => []
  | .wat a dx l => [a, dx, l]
abbrev Gh := List GO
def WA (g : Gh) (a : Addr) : Prop := ∃ o ∈ g, a ∈ o.adr
abbrev Os := Addr → Prop

mutual
inductive Rep (g : Gh) (O : Os) (H : Hp) : V → D → Prop
  | non : Rep g O H .non .none
  | bl (b : Bool) : Rep g O H (.bl b) (.bool b)
  | int (i : Int) : Rep g O H (.int i) (.int i)
  | str (x : Str) : Rep g O H (.str x) (.str x)
  | lst {a : Addr} {vs : List V} {ds : List D} : H a = some (.lst vs) → ¬ O a → Reps g O H vs ds → Rep g O H (.ref a) (.list ds)
  | tup {a : Addr} {vs : List V} {ds : List D} : H a = some (.tup vs) → Reps g O H vs ds → Rep g O H (.ref a) (.tuple ds)
  | spc {k : Nat} {o : GO} : g[k]? = some o → Rep g O H (.ref o.main) (.dict [(.int (.ofNat k), .none)])
  | exc {a : Addr} {c : Str} : H a = some (ExZ (CNm.nm c) a) → ¬ O a → Rep g O H (.ref a) (.dict [(.none, .str c)])
inductive Reps (g : Gh) (O : Os) (H : Hp) : List V → List D → Prop
  | nil : Reps g O H [] []
  | cons {v : V} {vs : List V} {d : D} {ds : List D} : Rep g O H v d → Reps g O H vs ds → Reps g O H (v :: vs) (d :: ds)
end

/-- an object of the world as it stands -/
def W1 (K : PySem.W.Frag) (H : Hp) : GO → WO → Prop
  | .drw a b, .drw ns c => H a = some (.lst [.ref b, .int c]) ∧ H b = some (.lst (ns.map V.int))
  | .scr a, .scr ns => (∃ o, H a = some (.frz o (.lst (ns.map V.int)))) ∨ SqL K (fun _ => none) a (ns.map V.int)
  | .wat a dx l, .wat sz nm nb ns => ∃ t, H a = some (.ins (He.ga K "Watcher") dx [("size", .int sz), ("rule", .ref t), ("line", .ref l)]) ∧ H dx = some (.own a) ∧ H t = some (.tup [.str nm, .int nb]) ∧ H l = some (.lst (ns.map V.int))
  | _, _ => False
structure WRep (K : PySem.W.Frag) (H : Hp) (g : Gh) (w : Wd) : Prop where
  pr : Paired (W1 K H) g w
  nd : (g.flatMap GO.adr).Nodup
structure Wf (H : Hp) (O : Os) (g : Gh) : Prop where
  wao : ∀ a, WA g a → O a
  oal : ∀ a, O a → H a ≠ none
  ot : ∀ a, O a → ∀ vs, H a ≠ some (.tup vs)
/-- from one state to a later one: all that was there is there, but for the world's objects -/
structure Evo (H : Hp) (O : Os) (g : Gh) (H' : Hp) (O' : Os) (g' : Gh) : Prop where
  keep : ∀ a o, H a = some o → ¬ WA g a → H' a = some o
  still : ∀ a, H a ≠ none → H' a ≠ none
  omono : ∀ b, O b → O' b
  onew : ∀ b, O' b → O b ∨ H b = none
  gpre : g <+: g'
  gnew : ∀ a, WA g' a → WA g a ∨ H a = none

theorem Evo.refl {H : Hp} {O : Os} {g : Gh} : Evo H O g H O g := ⟨fun _ _ h _ => h, fun _ h => h, fun _ h => h, fun _ h => .inl h, List.prefix_refl _, fun _ h => .inl h⟩
theorem Evo.trans {H H1 H2 : Hp} {O O1 O2 : Os} {g g1 g2 : Gh} (a : Evo H O g H1 O1 g1) (b : Evo H1 O1 g1 H2 O2 g2) : Evo H O g H2 O2 g2 where
  keep := fun x o h n => b.keep x o (a.keep x o h n) fun z => (a.gnew x z).elim n fun q => by rw [h] at q; cases q
  still := fun x h => b.still x (a.still x h)
  omono := fun x h => b.omono x (a.omono x h)
  onew := fun x h => by
    rcases b.onew x h with z | z
    · exact a.onew x z
    · right
      cases q : H x with
      | none => rfl
      | some o => exact absurd z (a.still x (by rw [q]; simp))
  gpre := a.gpre.trans b.gpre
  gnew := fun x h => by
    rcases b.gnew x h with z | z
    · exact a.gnew x z
    · right
      cases q : H x with
      | none => rfl
      | some o => exact absurd z (a.still x (by rw [q]; simp))
/-- what was new behind is new before -/
theorem Evo.back {H H' : Hp} {O O' : Os} {g g' : Gh} (e : Evo H O g H' O' g') {a : Addr} (h : H' a = none) : H a = none := by
  cases q : H a with
  | none => rfl
  | some o => exact absurd h (e.still a (by rw [q]; simp))
theorem Wf.fresh {H : Hp} {O : Os} {g : Gh} (w : Wf H O g) {p : Addr} (h : H p = none) : ¬ O p ∧ ¬ WA g p := ⟨fun z => w.oal p z h, fun z => w.oal p (w.wao p z) h⟩

mutual
theorem Rep.evo {H H' : Hp} {O O' : Os} {g g' : Gh} (e : Evo H O g H' O' g') (w : Wf H O g) : ∀ {v : V} {d : D}, Rep g O H v d → Rep g' O' H' v d
  | _, _, .non => .non
  | _, _, .bl b => .bl b
  | _, _, .int i => .int i
  | _, _, .str x => .str x
  | _, _, .lst h n r => .lst (e.keep _ _ h fun z => n (w.wao _ z)) (fun z => (e.onew _ z).elim n fun q => by rw [h] at q; cases q) (Reps.evo e w r)
  | _, _, .tup h r => .tup (e.keep _ _ h fun z => w.ot _ (w.wao _ z) _ h) (Reps.evo e w r)
  | _, _, .spc (k := k) (o := o) h => .spc (by
      obtain ⟨t, rfl⟩ := e.gpre
      rw [List.getElem?_append_left (List.getElem?_eq_some_iff.mp h).1]
      exact h)
  | _, _, .exc h n => .exc (e.keep _ _ h fun z => n (w.wao _ z)) (fun z => (e.onew _ z).elim n fun q => by rw [h] at q; cases q)
theorem Reps.evo {H H' : Hp} {O O' : Os} {g g' : Gh} (e : Evo H O g H' O' g') (w : Wf H O g) : ∀ {vs : List V} {ds : List D}, Reps g O H vs ds → Reps g' O' H' vs ds
  | _, _, .nil => .nil
  | _, _, .cons a b => .cons (Rep.evo e w a) (Reps.evo e w b)
end
theorem W1.nt {K : PySem.W.Frag} {H : Hp} {o : GO} {x : WO} (h : W1 K H o x) : ∀ a ∈ o.adr, ∃ u, H a = some u ∧ (∀ vs, u ≠ .tup vs) ∧ ∀ o x, u ≠ .frz o x := fun a ha => by
  cases o with
  | drw p q => cases x with
    | drw ns c =>
      obtain ⟨h1, h2⟩ := h
      rcases List.mem_cons.mp ha with rfl | ha
      · exact ⟨_, h1, (fun _ z => by cases z), fun _ _ z => by cases z⟩
      · rcases List.mem_cons.mp ha with rfl | ha
        · exact ⟨_, h2, (fun _ z => by cases z), fun _ _ z => by cases z⟩
        · cases ha
    | _ => exact h.elim
  | scr p => cases ha
  | wat p q r => cases x with
    | wat sz nm nb ns =>
      obtain ⟨t, h1, h2, _, h3⟩ := h
      rcases List.mem_cons.mp ha with rfl | ha
      · exact ⟨_, h1, (fun _ z => by cases z), fun _ _ z => by cases z⟩
      · rcases List.mem_cons.mp ha with rfl | ha
        · exact ⟨_, h2, (fun _ z => by cases z), fun _ _ z => by cases z⟩
        · rcases List.mem_cons.mp ha with rfl | ha
          · exact ⟨_, h3, (fun _ z => by cases z), fun _ _ z => by cases z⟩
          · cases ha
    | _ => exact h.elim
theorem Paired.mem_left {α β : Type} {F : α → β → Prop} : ∀ {l : List α} {m : List β}, Paired F l m → ∀ a ∈ l, ∃ b ∈ m, F a b
  | _, _, .nil, a, h => nomatch h
  | _, _, .cons r t, a, h => by
    rcases List.mem_cons.mp h with rfl | h
    · exact ⟨_, List.mem_cons_self, r⟩
    · obtain ⟨b, hb, q⟩ := Paired.mem_left t a h
      exact ⟨b, List.mem_cons_of_mem _ hb, q⟩
theorem WRep.ob {K : PySem.W.Frag} {H : Hp} {g : Gh} {w : Wd} (r : WRep K H g w) {a : Addr} (h : WA g a) : ∃ u, H a = some u ∧ (∀ vs, u ≠ .tup vs) ∧ ∀ o x, u ≠ .frz o x := by
  obtain ⟨o, ho, ha⟩ := h
  obtain ⟨x, _, hx⟩ := Paired.mem_left r.pr o ho
  exact hx.nt a ha
theorem WRep.nt {K : PySem.W.Frag} {H : Hp} {g : Gh} {w : Wd} (r : WRep K H g w) : ∀ a, WA g a → ∀ vs, H a ≠ some (.tup vs) := fun a h vs q => by
  obtain ⟨u, e, n, _⟩ := r.ob h
  rw [e] at q
  cases q
  exact n _ rfl

/-- the state of a run as the proof sees it -/
structure St3 (K : PySem.W.Frag) (H : Hp) (O : Os) (g : Gh) (w : Wd) : Prop where
  wf : Wf H O g
  wr : WRep K H g w
theorem St3.rep {K : PySem.W.Frag} {H H' : Hp} {O O' : Os} {g g' : Gh} {w : Wd} (s : St3 K H O g w) (e : Evo H O g H' O' g') {v : V} {d : D} (r : Rep g O H v d) : Rep g' O' H' v d := r.evo e s.wf
theorem St3.reps {K : PySem.W.Frag} {H H' : Hp} {O O' : Os} {g g' : Gh} {w : Wd} (s : St3 K H O g w) (e : Evo H O g H' O' g') {v : List V} {d : List D} (r : Reps g O H v d) : Reps g' O' H' v d := r.evo e s.wf

/-- a list that stands at a, with its items -/
def LAt (g : Gh) (O : Os) (H : Hp) (a : Addr) (ds : List D) : Prop := ∃ vs, H a = some (.lst vs) ∧ Reps g O H vs ds
theorem St3.lat {K : PySem.W.Frag} {H H' : Hp} {O O' : Os} {g g' : Gh} {w : Wd} (s : St3 K H O g w) (e : Evo H O g H' O' g') {a : Addr} {ds : List D} (n : ¬ WA g a) (r : LAt g O H a ds) : LAt g' O' H' a ds := by
  obtain ⟨vs, h, r⟩ := r
  exact ⟨vs, e.keep _ _ h n, s.reps e r⟩
/-- a value as it is held, H0 the heap before it was made -/
def RepV (g : Gh) (O : Os) (H0 H : Hp) (v : V) : RV → Prop
  | .val d => Rep g O H v d
  | .own ds => ∃ a, v = .ref a ∧ O a ∧ ¬ WA g a ∧ H0 a = none ∧ LAt g O H a ds
  | .bor ds => ∃ a, v = .ref a ∧ O a ∧ ¬ WA g a ∧ LAt g O H a ds
/-- .. to be read -/
def RepB (g : Gh) (O : Os) (H : Hp) (v : V) : RV → Prop
  | .val d => Rep g O H v d
  | .own ds => ∃ a, v = .ref a ∧ ¬ WA g a ∧ LAt g O H a ds
  | .bor ds => ∃ a, v = .ref a ∧ ¬ WA g a ∧ LAt g O H a ds
theorem RepV.b {g : Gh} {O : Os} {H0 H : Hp} {v : V} {r : RV} (h : RepV g O H0 H v r) : RepB g O H v r := by
  cases r with
  | val d => exact h
  | own ds => obtain ⟨a, e, _, n, _, l⟩ := h; exact ⟨a, e, n, l⟩
  | bor ds => obtain ⟨a, e, _, n, l⟩ := h; exact ⟨a, e, n, l⟩
theorem WA.of_evo {H H' : Hp} {O O' : Os} {g g' : Gh} (e : Evo H O g H' O' g') {a : Addr} (h : H a ≠ none) (n : ¬ WA g a) : ¬ WA g' a := fun z => (e.gnew a z).elim n h
theorem LAt.al {g : Gh} {O : Os} {H : Hp} {a : Addr} {ds : List D} (h : LAt g O H a ds) : H a ≠ none := by
  obtain ⟨vs, h, _⟩ := h
  rw [h]; simp
theorem St3.repB {K : PySem.W.Frag} {H H' : Hp} {O O' : Os} {g g' : Gh} {w : Wd} (s : St3 K H O g w) (e : Evo H O g H' O' g') {v : V} {r : RV} (h : RepB g O H v r) : RepB g' O' H' v r := by
  cases r with
  | val d => exact s.rep e h
  | own ds => obtain ⟨a, q, n, l⟩ := h; exact ⟨a, q, WA.of_evo e l.al n, s.lat e n l⟩
  | bor ds => obtain ⟨a, q, n, l⟩ := h; exact ⟨a, q, WA.of_evo e l.al n, s.lat e n l⟩
theorem St3.repV {K : PySem.W.Frag} {H0 H H' : Hp} {O O' : Os} {g g' : Gh} {w : Wd} (s : St3 K H O g w) (e : Evo H O g H' O' g') {v : V} {r : RV} (h : RepV g O H0 H v r) : RepV g' O' H0 H' v r := by
  cases r with
  | val d => exact s.rep e h
  | own ds => obtain ⟨a, q, o, n, f, l⟩ := h; exact ⟨a, q, e.omono a o, WA.of_evo e l.al n, f, s.lat e n l⟩
  | bor ds => obtain ⟨a, q, o, n, l⟩ := h; exact ⟨a, q, e.omono a o, WA.of_evo e l.al n, s.lat e n l⟩
/-- new since a later heap: new since an earlier one -/
theorem RepV.from {H H' : Hp} {O O' O2 : Os} {g g' g2 : Gh} {H2 : Hp} (e : Evo H O g H' O' g') {v : V} {r : RV} (h : RepV g2 O2 H' H2 v r) : RepV g2 O2 H H2 v r := by
  cases r with
  | val d => exact h
  | own ds => obtain ⟨a, q, o, n, f, l⟩ := h; exact ⟨a, q, o, n, e.back f, l⟩
  | bor ds => exact h
/-- read as a list -/
theorem RepB.lst {g : Gh} {O : Os} {H : Hp} {v : V} {r : RV} {ds : List D} (h : RepB g O H v r) (e : r.lst? = some ds) : ∃ a, v = .ref a ∧ LAt g O H a ds := by
  cases r with
  | val d =>
    cases d with
    | list xs =>
      have e' : xs = ds := Option.some.inj e
      subst e'
      have h' : Rep g O H v (.list xs) := h
      cases h' with
      | lst h1 n r => exact ⟨_, rfl, _, h1, r⟩
    | _ => cases e
  | own xs =>
    have e' : xs = ds := Option.some.inj e
    subst e'
    obtain ⟨a, q, _, l⟩ := h
    exact ⟨a, q, l⟩
  | bor xs =>
    have e' : xs = ds := Option.some.inj e
    subst e'
    obtain ⟨a, q, _, l⟩ := h
    exact ⟨a, q, l⟩

/-! ### new things -/
theorem Evo.newTup {H : Hp} {O : Os} {g : Gh} (w : Wf H O g) {p : Addr} {o : HO} (h : H p = none) : Evo H O g (upd H p o) O g where
  keep := fun a u e _ => by rw [upd_ne (ne_of_none e h)]; exact e
  still := fun a e => by
    by_cases z : a = p
    · rw [z, upd_same]; simp
    · rw [upd_ne z]; exact e
  omono := fun _ e => e
  onew := fun _ e => .inl e
  gpre := List.prefix_refl _
  gnew := fun _ e => .inl e
theorem Wf.new {H : Hp} {O : Os} {g : Gh} (w : Wf H O g) {p : Addr} {o : HO} (h : H p = none) : Wf (upd H p o) O g where
  wao := w.wao
  ot := fun a z vs => by
    by_cases q : a = p
    · rw [q] at z; exact absurd h (w.oal p z)
    · rw [upd_ne q]; exact w.ot a z vs
  oal := fun a h => by
    by_cases z : a = p
    · rw [z, upd_same]; simp
    · rw [upd_ne z]; exact w.oal a h
def addO (O : Os) (p : Addr) : Os := fun b => O b ∨ b = p
theorem Evo.newOwn {H : Hp} {O : Os} {g : Gh} (w : Wf H O g) {p : Addr} {o : HO} (h : H p = none) : Evo H O g (upd H p o) (addO O p) g where
  keep := fun a u e _ => by rw [upd_ne (ne_of_none e h)]; exact e
  still := fun a e => by
    by_cases z : a = p
    · rw [z, upd_same]; simp
    · rw [upd_ne z]; exact e
  omono := fun _ e => .inl e
  onew := fun _ e => e.elim .inl fun z => .inr (by rw [z]; exact h)
  gpre := List.prefix_refl _
  gnew := fun _ e => .inl e
theorem Wf.newOwn {H : Hp} {O : Os} {g : Gh} (w : Wf H O g) {p : Addr} {o : List V} : Wf (upd H p (.lst o)) (addO O p) g where
  wao := fun a h => .inl (w.wao a h)
  ot := fun a z vs => by
    by_cases q : a = p
    · rw [q, upd_same]; intro e; cases e
    · rw [upd_ne q]; exact w.ot a (z.elim id fun e => absurd e q) vs
  oal := fun a h => by
    by_cases z : a = p
    · rw [z, upd_same]; simp
    · rw [upd_ne z]; exact w.oal a (h.elim id fun q => absurd q z)
theorem W1.keep {K : PySem.W.Frag} {H H' : Hp} {o : GO} {x : WO} (h : W1 K H o x) (k : ∀ a u, H a = some u → H' a = some u) : W1 K H' o x := by
  cases o with
  | drw p q => cases x with
    | drw ns c => exact ⟨k _ _ h.1, k _ _ h.2⟩
    | _ => exact h.elim
  | scr p => cases x with
    | scr ns => exact h.elim (fun ⟨o, q⟩ => .inl ⟨o, k _ _ q⟩) .inr
    | _ => exact h.elim
  | wat p q r => cases x with
    | wat sz nm nb ns =>
      obtain ⟨t, h1, h2, h3, h4⟩ := h
      exact ⟨t, k _ _ h1, k _ _ h2, k _ _ h3, k _ _ h4⟩
    | _ => exact h.elim
theorem Paired.imp {α β : Type} {F G : α → β → Prop} (f : ∀ a b, F a b → G a b) : ∀ {l : List α} {m : List β}, Paired F l m → Paired G l m
  | _, _, .nil => .nil
  | _, _, .cons r t => .cons (f _ _ r) (Paired.imp f t)
theorem WRep.keep {K : PySem.W.Frag} {H H' : Hp} {g : Gh} {w : Wd} (r : WRep K H g w) (k : ∀ a u, H a = some u → H' a = some u) : WRep K H' g w := ⟨Paired.imp (fun _ _ h => h.keep k) r.pr, r.nd⟩
theorem upd_keep {H : Hp} {p : Addr} {o : HO} (h : H p = none) : ∀ a u, H a = some u → upd H p o a = some u := fun a u e => by rw [upd_ne (ne_of_none e h)]; exact e
theorem St3.newTup {K : PySem.W.Frag} {H : Hp} {O : Os} {g : Gh} {w : Wd} (s : St3 K H O g w) {p : Addr} {o : HO} (h : H p = none) : St3 K (upd H p o) O g w := ⟨s.wf.new h, s.wr.keep (upd_keep h)⟩
theorem St3.newOwn {K : PySem.W.Frag} {H : Hp} {O : Os} {g : Gh} {w : Wd} (s : St3 K H O g w) {p : Addr} {o : List V} (h : H p = none) : St3 K (upd H p (.lst o)) (addO O p) g w := ⟨s.wf.newOwn, s.wr.keep (upd_keep h)⟩

/-! ### a list is frozen -/
def remO (O : Os) (p : Addr) : Os := fun b => O b ∧ b ≠ p
mutual
theorem Rep.anti {g : Gh} {O O' : Os} {H : Hp} (k : ∀ b, O' b → O b) : ∀ {v : V} {d : D}, Rep g O H v d → Rep g O' H v d
  | _, _, .non => .non
  | _, _, .bl b => .bl b
  | _, _, .int i => .int i
  | _, _, .str x => .str x
  | _, _, .lst h n r => .lst h (fun z => n (k _ z)) (Reps.anti k r)
  | _, _, .tup h r => .tup h (Reps.anti k r)
  | _, _, .spc h => .spc h
  | _, _, .exc h n => .exc h fun z => n (k _ z)
theorem Reps.anti {g : Gh} {O O' : Os} {H : Hp} (k : ∀ b, O' b → O b) : ∀ {vs : List V} {ds : List D}, Reps g O H vs ds → Reps g O' H vs ds
  | _, _, .nil => .nil
  | _, _, .cons a b => .cons (Rep.anti k a) (Reps.anti k b)
end
theorem Evo.rem {H H' : Hp} {O O' : Os} {g g' : Gh} (e : Evo H O g H' O' g') (w : Wf H O g) {a : Addr} (h : H a = none) : Evo H O g H' (remO O' a) g' where
  keep := e.keep
  still := e.still
  omono := fun b z => ⟨e.omono b z, fun q => w.oal b z (by rw [q]; exact h)⟩
  onew := fun b z => e.onew b z.1
  gpre := e.gpre
  gnew := e.gnew
theorem St3.rem {K : PySem.W.Frag} {H : Hp} {O : Os} {g : Gh} {w : Wd} (s : St3 K H O g w) {a : Addr} (n : ¬ WA g a) : St3 K H (remO O a) g w :=
  ⟨⟨fun b z => ⟨s.wf.wao b z, fun q => n (by rw [← q]; exact z)⟩, fun b z => s.wf.oal b z.1, fun b z => s.wf.ot b z.1⟩, s.wr⟩
theorem LAt.rep {g : Gh} {O : Os} {H : Hp} {a : Addr} {ds : List D} (l : LAt g O H a ds) : Rep g (remO O a) H (.ref a) (.list ds) := by
  obtain ⟨vs, h, r⟩ := l
  exact .lst h (fun z => z.2 rfl) (r.anti fun _ z => z.1)

/-! ### from one statement to a later one: all that is not own is as it was -/
structure EvoS (H : Hp) (O : Os) (g : Gh) (H' : Hp) (O' : Os) (g' : Gh) : Prop where
  keep : ∀ a o, H a = some o → ¬ O a → H' a = some o
  still : ∀ a, H a ≠ none → H' a ≠ none
  onew : ∀ b, O' b → O b ∨ H b = none
  gpre : g <+: g'
theorem EvoS.refl {H : Hp} {O : Os} {g : Gh} : EvoS H O g H O g := ⟨fun _ _ h _ => h, fun _ h => h, fun _ h => .inl h, List.prefix_refl _⟩
theorem Evo.s {H H' : Hp} {O O' : Os} {g g' : Gh} (e : Evo H O g H' O' g') (w : Wf H O g) : EvoS H O g H' O' g' := ⟨fun a o h n => e.keep a o h fun z => n (w.wao a z), e.still, e.onew, e.gpre⟩
theorem EvoS.trans {H H1 H2 : Hp} {O O1 O2 : Os} {g g1 g2 : Gh} (a : EvoS H O g H1 O1 g1) (b : EvoS H1 O1 g1 H2 O2 g2) : EvoS H O g H2 O2 g2 where
  keep := fun x o h n => b.keep x o (a.keep x o h n) fun z => (a.onew x z).elim n fun q => by rw [h] at q; cases q
  still := fun x h => b.still x (a.still x h)
  onew := fun x h => by
    rcases b.onew x h with z | z
    · exact a.onew x z
    · right
      cases q : H x with
      | none => rfl
      | some o => exact absurd z (a.still x (by rw [q]; simp))
  gpre := a.gpre.trans b.gpre
mutual
theorem Rep.evoS {H H' : Hp} {O O' : Os} {g g' : Gh} (e : EvoS H O g H' O' g') (w : Wf H O g) : ∀ {v : V} {d : D}, Rep g O H v d → Rep g' O' H' v d
  | _, _, .non => .non
  | _, _, .bl b => .bl b
  | _, _, .int i => .int i
  | _, _, .str x => .str x
  | _, _, .lst h n r => .lst (e.keep _ _ h n) (fun z => (e.onew _ z).elim n fun q => by rw [h] at q; cases q) (Reps.evoS e w r)
  | _, _, .tup h r => .tup (e.keep _ _ h fun z => w.ot _ z _ h) (Reps.evoS e w r)
  | _, _, .spc (k := k) (o := o) h => .spc (by
      obtain ⟨t, rfl⟩ := e.gpre
      rw [List.getElem?_append_left (List.getElem?_eq_some_iff.mp h).1]
      exact h)
  | _, _, .exc h n => .exc (e.keep _ _ h n) (fun z => (e.onew _ z).elim n fun q => by rw [h] at q; cases q)
theorem Reps.evoS {H H' : Hp} {O O' : Os} {g g' : Gh} (e : EvoS H O g H' O' g') (w : Wf H O g) : ∀ {vs : List V} {ds : List D}, Reps g O H vs ds → Reps g' O' H' vs ds
  | _, _, .nil => .nil
  | _, _, .cons a b => .cons (Rep.evoS e w a) (Reps.evoS e w b)
end
/-! ### an own list is changed -/
mutual
theorem Rep.mut {H : Hp} {O : Os} {g : Gh} {p : Addr} {xs ys : List V} (hp : H p = some (.lst xs)) (o : O p) : ∀ {v : V} {d : D}, Rep g O H v d → Rep g O (upd H p (.lst ys)) v d
  | _, _, .non => .non
  | _, _, .bl b => .bl b
  | _, _, .int i => .int i
  | _, _, .str x => .str x
  | _, _, .lst (a := a) h n r => .lst (by rw [upd_ne (fun z => n (by rw [z]; exact o))]; exact h) n (Reps.mut hp o r)
  | _, _, .tup (a := a) h r => .tup (by rw [upd_ne (fun z => by rw [z, hp] at h; cases h)]; exact h) (Reps.mut hp o r)
  | _, _, .spc h => .spc h
  | _, _, .exc (a := a) h n => .exc (by rw [upd_ne (fun z => n (by rw [z]; exact o))]; exact h) n
theorem Reps.mut {H : Hp} {O : Os} {g : Gh} {p : Addr} {xs ys : List V} (hp : H p = some (.lst xs)) (o : O p) : ∀ {vs : List V} {ds : List D}, Reps g O H vs ds → Reps g O (upd H p (.lst ys)) vs ds
  | _, _, .nil => .nil
  | _, _, .cons a b => .cons (Rep.mut hp o a) (Reps.mut hp o b)
end
theorem St3.mut {K : PySem.W.Frag} {H : Hp} {O : Os} {g : Gh} {w : Wd} (s : St3 K H O g w) {p : Addr} {xs ys : List V} (hp : H p = some (.lst xs)) (n : ¬ WA g p) : St3 K (upd H p (.lst ys)) O g w := by
  refine ⟨⟨s.wf.wao, fun a z => ?_, fun a z vs => ?_⟩, ⟨?_, s.wr.nd⟩⟩
  · by_cases q : a = p
    · rw [q, upd_same]; simp
    · rw [upd_ne q]; exact s.wf.oal a z
  · by_cases q : a = p
    · rw [q, upd_same]; intro e; cases e
    · rw [upd_ne q]; exact s.wf.ot a z vs
  · have all : ∀ {l : Gh} {m : Wd}, (∀ a, WA l a → WA g a) → Paired (W1 K H) l m → Paired (W1 K (upd H p (.lst ys))) l m := by
      intro l m hl h
      induction h with
      | nil => exact .nil
      | @cons o x l1 l2 h t ih =>
        refine .cons ?_ (ih fun a z => hl a (by obtain ⟨o', ho, ha⟩ := z; exact ⟨o', List.mem_cons_of_mem _ ho, ha⟩))
        have ne : ∀ a ∈ o.adr, a ≠ p := fun a ha z => n (by rw [← z]; exact hl a ⟨o, List.mem_cons_self, ha⟩)
        cases o with
        | drw a b => cases x with
          | drw ns c => exact ⟨by rw [upd_ne (ne a (by simp [GO.adr]))]; exact h.1, by rw [upd_ne (ne b (by simp [GO.adr]))]; exact h.2⟩
          | _ => exact h.elim
        | scr a => cases x with
          | scr ns => exact h.elim (fun ⟨o, q⟩ => .inl ⟨o, by rw [upd_ne (fun z => by rw [z, hp] at q; cases q)]; exact q⟩) .inr
          | _ => exact h.elim
        | wat a b c => cases x with
          | wat sz nm nb ns =>
            obtain ⟨t, h1, h2, h3, h4⟩ := h
            exact ⟨t, by rw [upd_ne (ne a (by simp [GO.adr]))]; exact h1, by rw [upd_ne (ne b (by simp [GO.adr]))]; exact h2, by rw [upd_ne (fun z => by rw [z, hp] at h3; cases h3)]; exact h3, by rw [upd_ne (ne c (by simp [GO.adr]))]; exact h4⟩
          | _ => exact h.elim
    exact all (fun _ z => z) s.wr.pr
theorem Evo.mut {H0 H : Hp} {O0 O : Os} {g0 g : Gh} (e : Evo H0 O0 g0 H O g) {p : Addr} {u : HO} (h0 : H0 p = none) : Evo H0 O0 g0 (upd H p u) O g where
  keep := fun a o h n => by rw [upd_ne (ne_of_none h h0)]; exact e.keep a o h n
  still := fun a h => by
    by_cases q : a = p
    · rw [q, upd_same]; simp
    · rw [upd_ne q]; exact e.still a h
  omono := e.omono
  onew := e.onew
  gpre := e.gpre
  gnew := e.gnew
theorem EvoS.mut {H : Hp} {O : Os} {g : Gh} {p : Addr} {u : HO} (o : O p) : EvoS H O g (upd H p u) O g where
  keep := fun a x h n => by rw [upd_ne (fun z => n (by rw [z]; exact o))]; exact h
  still := fun a h => by
    by_cases q : a = p
    · rw [q, upd_same]; simp
    · rw [upd_ne q]; exact h
  onew := fun _ z => .inl z
  gpre := List.prefix_refl _
theorem EvoS.rem {H : Hp} {O : Os} {g : Gh} {p : Addr} : EvoS H O g H (remO O p) g := ⟨fun _ _ h _ => h, fun _ h => h, fun _ z => .inl z.1, List.prefix_refl _⟩

/-! ### the slots -/
/-- a dict's values -/
def DRep (g : Gh) (O : Os) (H : Hp) (kvs : List (List Key × V)) (ps : Dct) : Prop := Paired (fun p q => p.1 = q.1 ∧ Rep g O H p.2 q.2) kvs ps
def SlR1 (g : Gh) (O : Os) (H : Hp) (v : V) : RV → Prop
  | .val d => Rep g O H v d
  | .own ds => ∃ a, v = .ref a ∧ O a ∧ ¬ WA g a ∧ LAt g O H a ds
  | .bor ds => ∃ a kvs ps, v = .ref a ∧ ds = ps.map encP ∧ O a ∧ ¬ WA g a ∧ Rd H a (.dT kvs) ∧ DRep g O H kvs ps
theorem DRep.mp {g g' : Gh} {O O' : Os} {H H' : Hp} {kvs : List (List Key × V)} {ps : Dct} (h : DRep g O H kvs ps) (f : ∀ v d, Rep g O H v d → Rep g' O' H' v d) : DRep g' O' H' kvs ps := Paired.imp (fun _ _ z => ⟨z.1, f _ _ z.2⟩) h
theorem rd_evo {H H' : Hp} {O O' : Os} {g g' : Gh} {a : Addr} {u : HO} (e : Evo H O g H' O' g') (n : ¬ WA g a) (h : Rd H a u) : Rd H' a u := h.elim (fun q => .inl (e.keep _ _ q n)) fun ⟨o, q⟩ => .inr ⟨o, e.keep _ _ q n⟩
theorem rd_al {H : Hp} {a : Addr} {u : HO} (h : Rd H a u) : H a ≠ none := by
  rcases h with q | ⟨o, q⟩ <;> (rw [q]; simp)
structure SRep (g : Gh) (O : Os) (H : Hp) (σ : L2.St) (s : Sl) : Prop where
  len : s.length = σ.length
  at' : ∀ (i : Nat) (r : RV), s[i]? = some (some r) → ∃ v, σ[i]? = some (some v) ∧ SlR1 g O H v r
  ap : ∀ (i j : Nat) (a : Addr) (ds es : List D), i ≠ j → s[i]? = some (some (.own ds)) → s[j]? = some (some (.own es)) → σ[i]? = some (some (.ref a)) → σ[j]? ≠ some (some (.ref a))
  ad : ∀ (i j : Nat) (ds es : List D), s[i]? = some (some (.bor ds)) → s[j]? = some (some (.bor es)) → i = j
theorem bor_set {s : Sl} {i j : Nat} {o : Option RV} {ds : List D} (ho : ∀ es, o ≠ some (.bor es)) (h : (s.set i o)[j]? = some (some (.bor ds))) : s[j]? = some (some (.bor ds)) := by
  by_cases e : i = j
  · subst e
    by_cases hl : i < s.length
    · rw [List.getElem?_set_self hl] at h
      exact absurd (Option.some.inj h) (ho ds)
    · rw [List.getElem?_eq_none (by rw [List.length_set]; omega)] at h
      cases h
  · rw [List.getElem?_set_ne e] at h
    exact h
theorem St3.slot {K : PySem.W.Frag} {H H' : Hp} {O O' : Os} {g g' : Gh} {w : Wd} (s : St3 K H O g w) (e : Evo H O g H' O' g') {v : V} {r : RV} (h : SlR1 g O H v r) : SlR1 g' O' H' v r := by
  cases r with
  | val d => exact s.rep e h
  | own ds => obtain ⟨a, q, o, n, l⟩ := h; exact ⟨a, q, e.omono a o, WA.of_evo e l.al n, s.lat e n l⟩
  | bor ds => obtain ⟨a, kvs, ps, q, q2, o, n, l, r⟩ := h; exact ⟨a, kvs, ps, q, q2, e.omono a o, WA.of_evo e (rd_al l) n, rd_evo e n l, r.mp fun _ _ z => s.rep e z⟩
theorem SRep.evo {K : PySem.W.Frag} {H H' : Hp} {O O' : Os} {g g' : Gh} {w : Wd} {σ : L2.St} {sl : Sl} (r : SRep g O H σ sl) (s : St3 K H O g w) (e : Evo H O g H' O' g') : SRep g' O' H' σ sl :=
  ⟨r.len, fun i v h => by
    obtain ⟨x, h1, h2⟩ := r.at' i v h
    exact ⟨x, h1, s.slot e h2⟩, r.ap, r.ad⟩

/-! ### what is to be shown -/
def Pst {α : Type} (K : PySem.W.Frag) (H : Hp) (O : Os) (g : Gh) (m : R α) (C : α → Wd → Hp → Os → Gh → Prop) : Prop := match m with
  | .ok a w => ∀ H' O' g', Evo H O g H' O' g' → St3 K H' O' g' w → C a w H' O' g'
  | .exc _ _ => False
  | .bad => False
theorem Pst.mono {α : Type} {K : PySem.W.Frag} {H : Hp} {O : Os} {g : Gh} {m : R α} {C C' : α → Wd → Hp → Os → Gh → Prop} (h : Pst K H O g m C) (f : ∀ a w H' O' g', Evo H O g H' O' g' → St3 K H' O' g' w → C a w H' O' g' → C' a w H' O' g') : Pst K H O g m C' := by
  cases m with
  | ok a w => exact fun H' O' g' e s => f _ _ _ _ _ e s (h H' O' g' e s)
  | exc c w => exact h
  | bad => exact h
/-- from any later state on -/
def Nxt {β : Type} (K : PySem.W.Frag) (H : Hp) (O : Os) (g : Gh) (m : R β) (w : Wd) (C : β → Wd → Hp → Os → Gh → Prop) : Prop := ∀ H' O' g', Evo H O g H' O' g' → St3 K H' O' g' w → Pst K H' O' g' m C
theorem Pst.nxt {β : Type} {K : PySem.W.Frag} {H : Hp} {O : Os} {g : Gh} {m : R β} {w : Wd} {C : β → Wd → Hp → Os → Gh → Prop} (h : Pst K H O g m C) : Nxt K H O g m w C := by
  intro H' O' g' e s
  cases m with
  | ok b w' => exact fun H2 O2 g2 e2 s2 => h H2 O2 g2 (e.trans e2) s2
  | exc c w' => exact h
  | bad => exact h
theorem Pst.bind {α β : Type} {K : PySem.W.Frag} {H : Hp} {O : Os} {g : Gh} {m : R α} {f : α → Wd → R β} {C : β → Wd → Hp → Os → Gh → Prop} (h : Pst K H O g (m.bind f) C) : Pst K H O g m (fun a w _ _ _ => Nxt K H O g (f a w) w C) := by
  cases m with
  | ok a w =>
    intro H' O' g' e s
    have h' : Pst K H O g (f a w) C := h
    exact h'.nxt
  | exc c w => exact h
  | bad => exact h
theorem Pst.of {α : Type} {K : PySem.W.Frag} {H : Hp} {O : Os} {g : Gh} {m : Option α} {w : Wd} {C : α → Wd → Hp → Os → Gh → Prop} (h : Pst K H O g (R.of m w) C) : ∃ a, m = some a ∧ Pst K H O g (R.ok a w) C := by
  cases m with
  | none => exact h.elim
  | some a => exact ⟨a, rfl, h⟩
/-- the end of an expression: its value's reading -/
def CV (H : Hp) (Q : VK) : RV → Wd → Hp → Os → Gh → Prop := fun r _ H' O' g' => ∀ v, RepV g' O' H H' v r → Q v H'
/-- the reading of an expression, by the interpreter -/
def tE (K : PySem.W.Frag) (n : Nat) (G : Cn) (e : Expr) : TE := fun σ H Q => ∃ s O g w, SRep g O H σ s ∧ St3 K H O g w ∧ Pst K H O g (ev n G s e w) (CV H Q)
end TM

namespace TM
open PySem PySem.Spec PyProof.Rows L2
variable [CNm]

theorem cap_line : cap ≤ sizeLine := by rw [sizeLine_eq]; decide
theorem Reps.length {g : Gh} {O : Os} {H : Hp} : ∀ {vs : List V} {ds : List D}, Reps g O H vs ds → vs.length = ds.length
  | _, _, .nil => rfl
  | _, _, .cons _ b => by simp [Reps.length b]
theorem Reps.append {g : Gh} {O : Os} {H : Hp} : ∀ {vs us : List V} {ds es : List D}, Reps g O H vs ds → Reps g O H us es → Reps g O H (vs ++ us) (ds ++ es)
  | _, _, _, _, .nil, q => q
  | _, _, _, _, .cons a b, q => .cons a (Reps.append b q)
theorem Reps.take {g : Gh} {O : Os} {H : Hp} : ∀ {vs : List V} {ds : List D} (n : Nat), Reps g O H vs ds → Reps g O H (vs.take n) (ds.take n)
  | _, _, 0, _ => by simp; exact .nil
  | _, _, _ + 1, .nil => by simp; exact .nil
  | _, _, n + 1, .cons a b => by simp; exact .cons a (Reps.take n b)
theorem Reps.drop {g : Gh} {O : Os} {H : Hp} : ∀ {vs : List V} {ds : List D} (n : Nat), Reps g O H vs ds → Reps g O H (vs.drop n) (ds.drop n)
  | _, _, 0, h => by simpa using h
  | _, _, _ + 1, .nil => by simp; exact .nil
  | _, _, n + 1, .cons a b => by simp; exact Reps.drop n b
theorem Reps.get {g : Gh} {O : Os} {H : Hp} : ∀ {vs : List V} {ds : List D} {i : Nat} {d : D}, Reps g O H vs ds → ds[i]? = some d → ∃ v, vs[i]? = some v ∧ Rep g O H v d
  | _, _, _, _, .nil, e => by simp at e
  | _, _, 0, _, .cons a b, e => by simp at e; subst e; exact ⟨_, rfl, a⟩
  | _, _, i + 1, d, .cons a b, e => by
    obtain ⟨v, h1, h2⟩ := Reps.get (i := i) (d := d) b (by simpa using e)
    exact ⟨v, by simpa using h1, h2⟩
theorem Reps.get' {g : Gh} {O : Os} {H : Hp} : ∀ {vs : List V} {ds : List D} {i : Nat} {v : V}, Reps g O H vs ds → vs[i]? = some v → ∃ d, ds[i]? = some d ∧ Rep g O H v d
  | _, _, _, _, .nil, e => by simp at e
  | _, _, 0, _, .cons a b, e => by simp at e; subst e; exact ⟨_, rfl, a⟩
  | _, _, i + 1, v, .cons a b, e => by
    obtain ⟨d, h1, h2⟩ := Reps.get' (i := i) (v := v) b (by simpa using e)
    exact ⟨d, by simpa using h1, h2⟩
theorem Reps.set {g : Gh} {O : Os} {H : Hp} {v : V} {d : D} (r : Rep g O H v d) : ∀ {vs : List V} {ds : List D} (i : Nat), Reps g O H vs ds → Reps g O H (vs.set i v) (ds.set i d)
  | _, _, _, .nil => .nil
  | _, _, 0, .cons a b => .cons r b
  | _, _, i + 1, .cons a b => .cons a (Reps.set r i b)
theorem Reps.reverse {g : Gh} {O : Os} {H : Hp} : ∀ {vs : List V} {ds : List D}, Reps g O H vs ds → Reps g O H vs.reverse ds.reverse
  | _, _, .nil => by simp; exact .nil
  | _, _, .cons a b => by simp; exact Reps.append (Reps.reverse b) (.cons a .nil)
theorem Reps.eraseIdx {g : Gh} {O : Os} {H : Hp} : ∀ {vs : List V} {ds : List D} (i : Nat), Reps g O H vs ds → Reps g O H (vs.eraseIdx i) (ds.eraseIdx i)
  | _, _, _, .nil => by simp; exact .nil
  | _, _, 0, .cons a b => by simp; exact b
  | _, _, i + 1, .cons a b => by simp; exact .cons a (Reps.eraseIdx i b)
theorem Reps.rep {g : Gh} {O : Os} {H : Hp} {vs : List V} {ds : List D} (r : Reps g O H vs ds) : ∀ k : Nat, Reps g O H (List.replicate k vs).flatten (List.replicate k ds).flatten
  | 0 => by simp; exact .nil
  | k + 1 => by rw [List.replicate_succ, List.replicate_succ, List.flatten_cons, List.flatten_cons]; exact r.append (r.rep k)
theorem Reps.cut {g : Gh} {O : Os} {H : Hp} {vs : List V} {ds : List D} (r : Reps g O H vs ds) (lo hi : Option Int) : Reps g O H (cutV vs lo hi) (cut ds lo hi) := by
  unfold cutV TM.cut
  rw [r.length]
  exact (r.drop _).take _
theorem Reps.ints {g : Gh} {O : Os} {H : Hp} : ∀ {vs : List V} {ds : List D} {ns : List Int}, Reps g O H vs ds → asInts ds = some ns → vs = ns.map V.int
  | _, _, ns, .nil, e => by
    have e' : ([] : List Int) = ns := Option.some.inj e
    subst e'; rfl
  | _, _, ns, .cons (d := d) a b, e => by
    cases d with
    | int i =>
      cases a
      simp only [asInts, Option.map_eq_some_iff] at e
      obtain ⟨ms, e1, rfl⟩ := e
      rw [Reps.ints b e1]; rfl
    | _ => simp [asInts] at e
theorem reps_ints {g : Gh} {O : Os} {H : Hp} : ∀ ns : List Int, Reps g O H (ns.map V.int) (ns.map .int)
  | [] => .nil
  | n :: r => .cons (.int n) (reps_ints r)
theorem Reps.bools {g : Gh} {O : Os} {H : Hp} : ∀ {vs : List V} {ds : List D} {ns : List Bool}, Reps g O H vs ds → asBools ds = some ns → vs = ns.map V.bl
  | _, _, ns, .nil, e => by
    have e' : ([] : List Bool) = ns := Option.some.inj e
    subst e'; rfl
  | _, _, ns, .cons (d := d) a b, e => by
    cases d with
    | bool i =>
      cases a
      simp only [asBools, Option.map_eq_some_iff] at e
      obtain ⟨ms, e1, rfl⟩ := e
      rw [Reps.bools b e1]; rfl
    | _ => simp [asBools] at e

/-! ### results -/
section
variable {K : PySem.W.Frag} {H H0 : Hp} {O : Os} {g : Gh} {w : Wd} {Q : VK}
theorem mkOwn (st : St3 K H O g w) {p : Addr} (hp : H p = none) (h0 : H0 p = none) {vs : List V} {ds : List D} (r : Reps g O H vs ds) : RepV g (addO O p) H0 (upd H p (.lst vs)) (.ref p) (.own ds) :=
  ⟨p, rfl, .inr rfl, (st.wf.fresh hp).2, h0, vs, upd_same, st.reps (Evo.newOwn st.wf hp) r⟩
theorem endOwn {ds : List D} {vs : List V} (st : St3 K H O g w) (hb : ∀ p, H p = none → H0 p = none) (r : Reps g O H vs ds) (h : Pst K H O g (R.ok (.own ds) w) (CV H0 Q)) {p : Addr} (hp : H p = none) : Q (.ref p) (upd H p (.lst vs)) :=
  h _ _ _ (Evo.newOwn st.wf hp) (st.newOwn hp) _ (mkOwn st hp (hb p hp) r)
theorem endTup {ds : List D} {vs : List V} (st : St3 K H O g w) (r : Reps g O H vs ds) (h : Pst K H O g (R.ok (.val (.tuple ds)) w) (CV H0 Q)) {p : Addr} (hp : H p = none) : Q (.ref p) (upd H p (.tup vs)) :=
  h _ _ _ (Evo.newTup st.wf hp) (st.newTup hp) _ (Rep.tup upd_same (st.reps (Evo.newTup st.wf hp) r))
theorem endVal {d : D} {v : V} (st : St3 K H O g w) (r : Rep g O H v d) (h : Pst K H O g (R.ok (.val d) w) (CV H0 Q)) : Q v H := h _ _ _ Evo.refl st _ r
end

/-! ### operators by values, as weak as can be -/
def rW (X : Cx) (f : Value → Value → Sem Value) : R2 := fun x y H Q => ∀ (pins : List (Addr × Obj)) (s : Shared) (σ : L2.St) (v u : Value), Inv X pins σ H s → RelV x v → RelV y u → wpAny (model X.prog X.w) X.A (f v u) (EP X pins σ Q) X.xe s
theorem opW {X : Cx} {f : Value → Value → Sem Value} : OpR X f (rW X f) := fun pins s σ H x y v u Q I r1 r2 h => h pins s σ v u I r1 r2
theorem OpR.w {X : Cx} {f : Value → Value → Sem Value} {r : R2} (h : OpR X f r) {x y : V} {H : Hp} {Q : VK} (q : r x y H Q) : rW X f x y H Q := fun pins s σ v u I r1 r2 => h pins s σ H x y v u Q I r1 r2 q
def uW (X : Cx) (f : Value → Sem Value) : V → Hp → VK → Prop := fun x H Q => ∀ (pins : List (Addr × Obj)) (s : Shared) (σ : L2.St) (v : Value), Inv X pins σ H s → RelV x v → wpAny (model X.prog X.w) X.A (f v) (EP X pins σ Q) X.xe s
theorem unW' {X : Cx} {f : Value → Sem Value} : UnR X f (uW X f) := fun pins s σ H x v Q I r1 h => h pins s σ v I r1
def cW (X : Cx) (f : Value) : List V → Hp → VK → Prop := fun xs H Q => ∀ (pins : List (Addr × Obj)) (s : Shared) (σ : L2.St) (us : List Value), Inv X pins σ H s → Vals xs us → wpAny (model X.prog X.w) X.A (call f us) (EP X pins σ Q) X.xe s
theorem calW {X : Cx} {f : Value} : CallR X f (cW X f) := fun pins s σ H xs us Q I r1 h => h pins s σ us I r1
theorem CallR.w {X : Cx} {f : Value} {r : List V → Hp → VK → Prop} (h : CallR X f r) {xs : List V} {H : Hp} {Q : VK} (q : r xs H Q) : cW X f xs H Q := fun pins s σ us I r1 => h pins s σ H xs us Q I r1 q
def iW (X : Cx) : R2 := fun x y H Q => ∀ (value slice : Expr) (pins : List (Addr × Obj)) (s : Shared) (σ : L2.St) (v u : Value), Inv X pins σ H s → RelV x v → RelV y u → subscripted slice false v u = operate [v, u] (getItem v u) → wpAny (model X.prog X.w) X.A (subscriptTail value slice v u) (EP X pins σ Q) X.xe s
theorem ixW {X : Cx} : IxR X (iW X) := fun value slice pins s σ H x y v u Q I r1 r2 h hs => h value slice pins s σ v u I r1 r2 hs
theorem IxR.w {X : Cx} {r : R2} (h : IxR X r) {x y : V} {H : Hp} {Q : VK} (q : r x y H Q) : iW X x y H Q := fun value slice pins s σ v u I r1 r2 hs => h value slice pins s σ H x y v u Q I r1 r2 q hs
def sW (X : Cx) : V → Option Int → Option Int → Hp → VK → Prop := fun x lo hi H Q => ∀ (pins : List (Addr × Obj)) (s : Shared) (σ : L2.St) (v vl vu : Value) (sl : Addr), Inv X pins σ H s → RelV x v → s.heap.IsSliceOf sl vl vu .none → IsPart vl lo → IsPart vu hi →
    ∃ T id, typeLookup (.type T) "__getitem__" = pure (some (.builtin id)) ∧ s.TypeIs v T ∧ wpAny (model X.prog X.w) X.A (getItem v (.ref sl)) (EP X pins σ Q) X.xe s
theorem slW {X : Cx} : SlR X (sW X) := fun pins s σ H x v vl vu lo hi sl Q I r1 h2 h3 h4 h => h pins s σ v vl vu sl I r1 h2 h3 h4
theorem SlR.w {X : Cx} {r : V → Option Int → Option Int → Hp → VK → Prop} (h : SlR X r) {x : V} {lo hi : Option Int} {H : Hp} {Q : VK} (q : r x lo hi H Q) : sW X x lo hi H Q := fun pins s σ v vl vu sl I r1 h2 h3 h4 => h pins s σ H x v vl vu lo hi sl Q I r1 h2 h3 h4 q
def mW (X : Cx) (id : String) : V → List V → Hp → VK → Prop := fun x xs H Q => ∀ (pins : List (Addr × Obj)) (s : Shared) (σ : L2.St) (v : Value) (us : List Value), Inv X pins σ H s → RelV x v → Vals xs us → wpAny (model X.prog X.w) X.A (call (.builtin id) (v :: us)) (EP X pins σ Q) X.xe s
theorem mtW {X : Cx} {id : String} : MtR X id (mW X id) := fun pins s σ H x xs v us Q I r1 r2 h => h pins s σ v us I r1 r2
theorem MtR.w {X : Cx} {id : String} {r : V → List V → Hp → VK → Prop} (h : MtR X id r) {x : V} {xs : List V} {H : Hp} {Q : VK} (q : r x xs H Q) : mW X id x xs H Q := fun pins s σ v us I r1 r2 => h pins s σ H x xs v us Q I r1 r2 q

section
variable {X : Cx} {H H0 : Hp} {O : Os} {g : Gh} {w : Wd} {Q : VK} {v u : V} {rx ry rz : RV}
theorem addL_ok (st : St3 X.K H O g w) (hb : ∀ p, H p = none → H0 p = none) (hx : RepB g O H v rx) (hy : RepB g O H u ry) (e : addL rx ry = some rz) (h : Pst X.K H O g (R.ok rz w) (CV H0 Q)) : rW X (binaryOp .Add) v u H Q := by
  unfold addL at e
  split at e
  · rename_i xs ys e1 e2
    split at e
    · rename_i hc
      cases e
      obtain ⟨a, rfl, vs, ha, ra⟩ := hx.lst e1
      obtain ⟨b, rfl, us, hb', rb⟩ := hy.lst e2
      refine OpR.w op_cat ⟨a, b, vs, us, rfl, rfl, ha, hb', ?_, fun p hp => endOwn st hb (ra.append rb) h hp⟩
      rw [ra.length, rb.length]
      exact Nat.le_trans hc cap_line
    · cases e
  · cases e
theorem repL_ok {k : Int} (st : St3 X.K H O g w) (hb : ∀ p, H p = none → H0 p = none) (hx : RepB g O H v rx) (e : repL rx k = some rz) (h : Pst X.K H O g (R.ok rz w) (CV H0 Q)) : rW X (binaryOp .Mult) v (.int k) H Q := by
  unfold repL at e
  split at e
  · rename_i xs e1
    split at e
    · rename_i hc
      cases e
      simp only [Bool.and_eq_true, decide_eq_true_eq] at hc
      obtain ⟨a, rfl, vs, ha, ra⟩ := hx.lst e1
      have hl : vs.length * k.toNat ≤ sizeLine := by
        rw [ra.length]
        exact Nat.le_trans hc.2 cap_line
      exact OpR.w op_rep ⟨a, k, vs, rfl, rfl, ha, hc.1.1, hc.1.2, hl, fun p hp => endOwn st hb (ra.rep k.toNat) h hp⟩
    · cases e
  · cases e
theorem mulOk_c {i j : Int} (h : mulOk i j = true) : CMul i j := by
  unfold mulOk at h
  simp only [Bool.or_eq_true, Bool.and_eq_true, decide_eq_true_eq] at h
  exact h
theorem divOk_c {i j : Int} (h : divOk j = true) : CDivN i j := by
  unfold divOk at h
  simp only [Bool.and_eq_true, decide_eq_true_eq] at h
  exact h
theorem powOk_c {i j : Int} (h : powOk i j = true) : CPow i j := by
  unfold powOk at h
  simp only [Bool.and_eq_true, decide_eq_true_eq] at h
  exact ⟨h.1.1, h.1.2, h.2⟩
theorem binop_ok {op : Operator} (st : St3 X.K H O g w) (hb : ∀ p, H p = none → H0 p = none) (hx : RepB g O H v rx) (hy : RepB g O H u ry) (e : binop op rx ry = some rz) (h : Pst X.K H O g (R.ok rz w) (CV H0 Q)) : rW X (binaryOp op) v u H Q := by
  unfold binop at e
  split at e
  · cases e; cases hx; cases hy
    exact OpR.w op_add ⟨_, _, rfl, rfl, endVal st (.int _) h⟩
  · cases hx; cases hy
    split at e
    · rename_i hc
      cases e
      exact OpR.w op_add_str ⟨_, _, rfl, rfl, Nat.le_trans hc cap_line, endVal st (.str _) h⟩
    · cases e
  · rename_i xs ys
    split at e
    · rename_i hc
      cases e
      have hx' : Rep g O H v (.tuple xs) := hx
      have hy' : Rep g O H u (.tuple ys) := hy
      cases hx' with
      | tup h1 r1 =>
        cases hy' with
        | tup h2 r2 =>
          refine OpR.w op_catA ⟨_, _, _, _, rfl, rfl, SqT.of h1, SqT.of h2, ?_, fun z => ?_, fun z z2 => ?_, fun _ _ p hp => endTup st (r1.append r2) h hp⟩
          · rw [r1.length, r2.length]
            exact Nat.le_trans hc cap_line
          · subst z
            cases r1
            exact endVal st (.tup h2 r2) h
          · subst z2
            cases r2
            rw [List.append_nil] at h
            exact endVal st (.tup h1 r1) h
    · cases e
  · exact addL_ok st hb hx hy e h
  · cases e; cases hx; cases hy
    exact OpR.w op_sub ⟨_, _, rfl, rfl, endVal st (.int _) h⟩
  · cases hx; cases hy
    split at e
    · rename_i hc
      cases e
      exact OpR.w op_mul ⟨_, _, rfl, rfl, mulOk_c hc, endVal st (.int _) h⟩
    · cases e
  · cases hy
    exact repL_ok st hb hx e h
  · cases hx; cases hy
    split at e
    · rename_i hc
      cases e
      exact OpR.w op_fdivN ⟨_, _, rfl, rfl, divOk_c hc, endVal st (.int _) h⟩
    · cases e
  · cases hx; cases hy
    split at e
    · rename_i hc
      cases e
      exact OpR.w op_modN ⟨_, _, rfl, rfl, of_decide_eq_true hc, endVal st (.int _) h⟩
    · cases e
  · cases hx; cases hy
    split at e
    · rename_i hc
      cases e
      exact OpR.w op_pow ⟨_, _, rfl, rfl, powOk_c hc, endVal st (.int _) h⟩
    · cases e
  · cases e
end
end TM

namespace TM
open PySem PySem.Spec PyProof.Rows L2
variable [CNm]

/-! ### comparisons -/
theorem okD_all {n : Nat} (ih : ∀ d, okD n d = true → d.canLay0 = true ∧ d.depth ≤ n) : ∀ xs : List D, xs.all (okD n) = true → PyData.canLayAll0 xs = true ∧ PyData.depthAll xs ≤ n
  | [], _ => ⟨by simp [PyData.canLayAll0], by simp [PyData.depthAll]⟩
  | x :: r, h => by
    simp only [List.all_cons, Bool.and_eq_true] at h
    obtain ⟨a1, a2⟩ := ih x h.1
    obtain ⟨b1, b2⟩ := okD_all ih r h.2
    exact ⟨by simp [PyData.canLayAll0, a1, b1], by simp only [PyData.depthAll]; omega⟩
theorem okD_lay : ∀ (n : Nat) (d : D), okD n d = true → d.canLay0 = true ∧ d.depth ≤ n
  | n, .none, _ => ⟨by simp [PyData.canLay0], by simp [PyData.depth]⟩
  | n, .bool b, _ => ⟨by simp [PyData.canLay0], by simp [PyData.depth]⟩
  | n, .int i, _ => ⟨by simp [PyData.canLay0], by simp [PyData.depth]⟩
  | n, .str x, h => ⟨by
      have h' : PyData.strOk x = true := by simpa [okD] using h
      simp [PyData.canLay0, h'], by simp [PyData.depth]⟩
  | 0, .list xs, h => by simp [okD] at h
  | 0, .tuple xs, h => by simp [okD] at h
  | n + 1, .list xs, h => by
    have h' : xs.all (okD n) = true := by rw [← h]; rfl
    obtain ⟨a, b⟩ := okD_all (okD_lay n) xs h'
    exact ⟨by simp [PyData.canLay0, a], by simp only [PyData.depth]; omega⟩
  | n + 1, .tuple xs, h => by
    have h' : xs.all (okD n) = true := by rw [← h]; rfl
    obtain ⟨a, b⟩ := okD_all (okD_lay n) xs h'
    exact ⟨by simp [PyData.canLay0, a], by simp only [PyData.depth]; omega⟩
  | 0, .dict kv, h => by simp [okD] at h
  | n + 1, .dict kv, h => by simp [okD] at h
theorem okD_shaped {n : Nat} {d : D} (hn : n ≤ 64) (h : okD n d = true) : SeqAt.shaped d = true := by
  obtain ⟨a, b⟩ := okD_lay n d h
  unfold SeqAt.shaped
  rw [a, decide_eq_true (Nat.le_trans b hn)]
  rfl
mutual
theorem Rep.dp {K : PySem.W.Frag} {g : Gh} {O : Os} {H : Hp} : ∀ {v : V} {d : D}, Rep g O H v d → d.canLay0 = true → Dp K H v d
  | _, _, .non, _ => .non
  | _, _, .bl b, _ => .bl b
  | _, _, .int i, _ => .int i
  | _, _, .str x, _ => .str x
  | _, _, .lst h n r, c => .lst (SqL.of h) (Reps.dp r (by simpa [PyData.canLay0] using c))
  | _, _, .tup h r, c => .tup (SqT.of h) (Reps.dp r (by simpa [PyData.canLay0] using c))
  | _, _, .spc h, c => by simp [PyData.canLay0] at c
  | _, _, .exc h n, c => by simp [PyData.canLay0] at c
theorem Reps.dp {K : PySem.W.Frag} {g : Gh} {O : Os} {H : Hp} : ∀ {vs : List V} {ds : List D}, Reps g O H vs ds → PyData.canLayAll0 ds = true → DpAll K H vs ds
  | _, _, .nil, _ => .nil
  | _, _, .cons a b, c => by
    simp only [PyData.canLayAll0, Bool.and_eq_true] at c
    exact .cons (Rep.dp a c.1) (Reps.dp b c.2)
end
theorem RepB.dp {K : PySem.W.Frag} {g : Gh} {O : Os} {H : Hp} {v : V} {r : RV} (h : RepB g O H v r) (c : r.dat.canLay0 = true) : Dp K H v r.dat := by
  cases r with
  | val d => exact Rep.dp h c
  | own ds =>
    obtain ⟨a, rfl, _, vs, ha, r⟩ := h
    exact .lst (SqL.of ha) (r.dp (by simpa [RV.dat, PyData.canLay0] using c))
  | bor ds =>
    obtain ⟨a, rfl, _, vs, ha, r⟩ := h
    exact .lst (SqL.of ha) (r.dp (by simpa [RV.dat, PyData.canLay0] using c))
theorem Rep.flat {g : Gh} {O : Os} {H : Hp} {v : V} {d : D} (r : Rep g O H v d) (f : flatD d = true) : flatV v = true := by
  cases r <;> first | rfl | (exact absurd f (by decide)) | cases f
theorem Reps.flat {g : Gh} {O : Os} {H : Hp} : ∀ {vs : List V} {ds : List D}, Reps g O H vs ds → ds.all flatD = true → vs.all flatV = true
  | _, _, .nil, _ => rfl
  | _, _, .cons a b, c => by
    simp only [List.all_cons, Bool.and_eq_true] at c
    simp only [List.all_cons, Bool.and_eq_true]
    exact ⟨a.flat c.1, Reps.flat b c.2⟩
theorem Rep.eqV {g : Gh} {O : Os} {H : Hp} {v u : V} {d e : D} (r : Rep g O H v d) (q : Rep g O H u e) (f : flatD d = true) (f' : flatD e = true) : L2.eqV v u = PyData.eqv d e := by
  cases r <;> first | cases f | skip
  all_goals (cases q <;> first | rfl | cases f')
theorem Reps.inV {g : Gh} {O : Os} {H : Hp} {u : V} {e : D} (q : Rep g O H u e) (f' : flatD e = true) : ∀ {vs : List V} {ds : List D}, Reps g O H vs ds → ds.all flatD = true → L2.inV u vs = ds.any fun z => PyData.eqv z e
  | _, _, .nil, _ => rfl
  | _, _, .cons a b, c => by
    simp only [List.all_cons, Bool.and_eq_true] at c
    have h := Reps.inV q f' b c.2
    unfold L2.inV at h ⊢
    simp only [List.any_cons]
    rw [a.eqV q c.1 f', h]
theorem RepB.flat {g : Gh} {O : Os} {H : Hp} {v : V} {r : RV} (h : RepB g O H v r) (f : flatD r.dat = true) : Rep g O H v r.dat := by
  cases r with
  | val d => exact h
  | own ds => cases f
  | bor ds => cases f
section
variable {X : Cx} {H : Hp} {O : Os} {g : Gh} {Q : VK} {v u : V} {rx ry : RV} {k : Nat}
theorem inOp_ok {b : Bool} (hr : Room k X.A) (hx : RepB g O H v rx) (hy : RepB g O H u ry) (e : inOp rx ry = some b) : (Q (.bl b) H → rW X (compareOp .In) v u H Q) ∧ (Q (.bl (!b)) H → rW X (compareOp .NotIn) v u H Q) := by
  have hu : X.A.units + 65 < cLine := by have := hr.un; omega
  unfold inOp at e
  split at e
  · rename_i ds
    split at e
    · rename_i hc
      cases e
      simp only [Bool.and_eq_true] at hc
      have hx' := hx.flat hc.1
      have hy' : Rep g O H u (.tuple ds) := hy
      cases hy' with
      | tup h1 r1 =>
        have i := Reps.inV hx' hc.1 r1 hc.2
        refine ⟨fun q => OpR.w op_in_seq ⟨_, _, rfl, .inr (SqT.of h1), hx'.flat hc.1, r1.flat hc.2, ?_⟩, fun q => OpR.w op_notIn_seq ⟨_, _, rfl, .inr (SqT.of h1), hx'.flat hc.1, r1.flat hc.2, ?_⟩⟩
        · show Q (.bl (if false = true then _ else _)) H
          rw [if_neg (by decide), i]; exact q
        · show Q (.bl (if true = true then _ else _)) H
          rw [if_pos rfl, i]; exact q
    · cases e
  · cases e
  · split at e
    · rename_i ds e1
      split at e
      · rename_i hc
        cases e
        simp only [Bool.and_eq_true] at hc
        obtain ⟨a, rfl, vs, ha, ra⟩ := hy.lst e1
        have c1 := okD_lay 7 _ hc.1
        have c2 := okD_lay 8 _ hc.2
        have d1 : Dp X.K H v rx.dat := hx.dp c1.1
        have d2 : Dp X.K H (.ref a) (.list ds) := .lst (SqL.of ha) (ra.dp (by simpa [PyData.canLay0] using c2.1))
        exact ⟨fun q => OpR.w (op_inD hu) ⟨_, _, d1, d2, okD_shaped (by decide) hc.1, okD_shaped (by decide) hc.2, q⟩, fun q => OpR.w (op_notInD hu) ⟨_, _, d1, d2, okD_shaped (by decide) hc.1, okD_shaped (by decide) hc.2, q⟩⟩
      · cases e
    · cases e
theorem isOp_ok {b : Bool} (hx : RepB g O H v rx) (hy : RepB g O H u ry) (e : isOp rx ry = some b) : (Q (.bl b) H → rW X (compareOp .Is) v u H Q) ∧ (Q (.bl (!b)) H → rW X (compareOp .IsNot) v u H Q) := by
  have non : ∀ {b : Bool}, u = .non → decide (v = .non) = b → (Q (.bl b) H → rW X (compareOp .Is) v u H Q) ∧ (Q (.bl (!b)) H → rW X (compareOp .IsNot) v u H Q) := fun {b} h1 h2 => by
    subst h2
    exact ⟨fun q => OpR.w op_isN ⟨h1, q⟩, fun q => OpR.w op_notN ⟨h1, q⟩⟩
  unfold isOp at e
  split at e
  · cases e; cases hx; cases hy; exact non rfl (by decide)
  · cases e; cases hx; cases hy
    exact ⟨fun q => OpR.w op_isBl ⟨_, _, rfl, rfl, q⟩, fun q => OpR.w op_notBl ⟨_, _, rfl, rfl, q⟩⟩
  · cases e; cases hx; cases hy; exact non rfl (by simp)
  · cases e; cases hx; cases hy; exact non rfl (by simp)
  · cases e; cases hx; cases hy; exact non rfl (by simp)
  · cases e; cases hy
    rename_i ds
    have hx' : Rep g O H v (.tuple ds) := hx
    cases hx'; exact non rfl (by simp)
  · cases e; cases hy
    rename_i ds
    have hx' : Rep g O H v (.list ds) := hx
    cases hx'; exact non rfl (by simp)
  · cases e; cases hy
    rename_i ds
    have hx' : Rep g O H v (.dict ds) := hx
    have hne : v ≠ .non := by cases hx' <;> (intro z; cases z)
    exact non rfl (by simp [hne])
  · cases e; cases hy
    obtain ⟨a, rfl, _⟩ := hx
    exact non rfl (by simp)
  · cases e; cases hy
    obtain ⟨a, rfl, _⟩ := hx
    exact non rfl (by simp)
  · cases e
theorem cmpop_ok {op : CmpOp} {b : Bool} (hr : Room k X.A) (hx : RepB g O H v rx) (hy : RepB g O H u ry) (e : cmpop op rx ry = some b) (q : Q (.bl b) H) : rW X (compareOp op) v u H Q := by
  cases op with
  | Eq =>
    by_cases hc : eqvOk rx.dat ry.dat = true
    · simp only [cmpop] at e
      rw [if_pos hc] at e
      cases e
      unfold eqvOk at hc
      simp only [Bool.and_eq_true] at hc
      exact OpR.w (op_eqD hr.units) ⟨_, _, hx.dp (okD_lay 8 _ hc.1).1, hy.dp (okD_lay 8 _ hc.2).1, okD_shaped (by decide) hc.1, okD_shaped (by decide) hc.2, q⟩
    · simp only [cmpop] at e
      rw [if_neg hc] at e
      cases e
  | NotEq =>
    by_cases hc : eqvOk rx.dat ry.dat = true
    · simp only [cmpop] at e
      rw [if_pos hc] at e
      cases e
      unfold eqvOk at hc
      simp only [Bool.and_eq_true] at hc
      exact OpR.w (op_neD hr.units) ⟨_, _, hx.dp (okD_lay 8 _ hc.1).1, hy.dp (okD_lay 8 _ hc.2).1, okD_shaped (by decide) hc.1, okD_shaped (by decide) hc.2, q⟩
    · simp only [cmpop] at e
      rw [if_neg hc] at e
      cases e
  | Lt =>
    simp only [cmpop] at e
    split at e
    · cases e; cases hx; cases hy
      exact OpR.w op_lt ⟨_, _, rfl, rfl, q⟩
    · cases e
  | LtE =>
    simp only [cmpop] at e
    split at e
    · cases e; cases hx; cases hy
      exact OpR.w op_le ⟨_, _, rfl, rfl, q⟩
    · cases e
  | Gt =>
    simp only [cmpop] at e
    split at e
    · cases e; cases hx; cases hy
      exact OpR.w op_gt ⟨_, _, rfl, rfl, q⟩
    · cases e
  | GtE =>
    simp only [cmpop] at e
    split at e
    · cases e; cases hx; cases hy
      exact OpR.w op_ge ⟨_, _, rfl, rfl, q⟩
    · cases e
  | In => exact (inOp_ok hr hx hy e).1 q
  | NotIn =>
    simp only [cmpop, Option.map_eq_some_iff] at e
    obtain ⟨c, e1, rfl⟩ := e
    exact (inOp_ok hr hx hy e1).2 q
  | Is => exact (isOp_ok hx hy e).1 q
  | IsNot =>
    simp only [cmpop, Option.map_eq_some_iff] at e
    obtain ⟨c, e1, rfl⟩ := e
    exact (isOp_ok hx hy e1).2 q
end

/-! ### subscripts and slices -/
theorem Reps.atI {g : Gh} {O : Os} {H : Hp} {vs : List V} {ds : List D} {i : Int} {d : D} (r : Reps g O H vs ds) (e : L2.atI ds i = some d) : ∃ v, L2.atI vs i = some v ∧ Rep g O H v d := by
  unfold L2.atI at e ⊢
  rw [r.length]
  cases h : ixN ds.length i with
  | none => rw [h] at e; cases e
  | some j =>
    rw [h] at e
    obtain ⟨v, h1, h2⟩ := r.get (i := j) (d := d) e
    exact ⟨v, h1, h2⟩
section
variable {X : Cx} {H H0 : Hp} {O : Os} {g : Gh} {w : Wd} {Q : VK} {v u : V} {rx ry rz : RV}
theorem ixop_ok (st : St3 X.K H O g w) (hx : RepB g O H v rx) (hy : RepB g O H u ry) (e : ixop rx ry = some rz) (h : Pst X.K H O g (R.ok rz w) (CV H0 Q)) : iW X v u H Q := by
  unfold ixop at e
  split at e
  · rename_i i
    cases hy
    split at e
    · rename_i ds
      simp only [Option.map_eq_some_iff] at e
      obtain ⟨d, e1, rfl⟩ := e
      have hx' : Rep g O H v (.tuple ds) := hx
      cases hx' with
      | tup h1 r1 =>
        obtain ⟨z, h2, r2⟩ := r1.atI e1
        exact IxR.w ix_tup ⟨_, _, _, _, rfl, rfl, SqT.of h1, h2, endVal st r2 h⟩
    · cases e
    · split at e
      · rename_i ds e0
        simp only [Option.map_eq_some_iff] at e
        obtain ⟨d, e1, rfl⟩ := e
        obtain ⟨a, rfl, vs, ha, ra⟩ := hx.lst e0
        obtain ⟨z, h2, r2⟩ := ra.atI e1
        exact IxR.w ix_list ⟨_, _, _, _, rfl, rfl, SqL.of ha, h2, endVal st r2 h⟩
      · cases e
  · cases e
theorem cut_all {α : Type} (ds : List α) (lo hi : Option Int) (h : HT.sIx ds.length 0 lo = 0 ∧ HT.sIx ds.length ds.length hi = ds.length) : cut ds lo hi = ds := by
  unfold cut
  rw [h.1, h.2]
  simp
theorem slop_ok {lo hi : Option Int} (st : St3 X.K H O g w) (hb : ∀ p, H p = none → H0 p = none) (hx : RepB g O H v rx) (e : slop rx lo hi = some rz) (h : Pst X.K H O g (R.ok rz w) (CV H0 Q)) : sW X v lo hi H Q := by
  unfold slop at e
  split at e
  · rename_i ds
    cases e
    have hx' : Rep g O H v (.tuple ds) := hx
    cases hx' with
    | tup h1 r1 =>
      refine SlR.w sl_tupA ⟨_, _, rfl, SqT.of h1, fun z => ?_, fun _ p hp => endTup st (r1.cut lo hi) h hp⟩
      rw [r1.length] at z
      rw [cut_all ds lo hi z] at h
      exact endVal st (.tup h1 r1) h
  · split at e
    · rename_i hc
      cases e
      cases hx
      exact SlR.w sl_str ⟨_, rfl, Nat.le_trans hc cap_line, endVal st (.str _) h⟩
    · cases e
  · split at e
    · rename_i ds e0
      cases e
      obtain ⟨a, rfl, vs, ha, ra⟩ := hx.lst e0
      exact SlR.w sl_list ⟨_, _, rfl, SqL.of ha, fun p hp => endOwn st hb (ra.cut lo hi) h hp⟩
    · cases e
theorem unop_ok {op : UnaryOp} (st : St3 X.K H O g w) (hx : RepB g O H v rx) (e : unop op rx = some rz) (hn : op ≠ .Not) (h : Pst X.K H O g (R.ok rz w) (CV H0 Q)) : uW X (unaryOp op) v H Q := by
  unfold unop at e
  split at e
  · cases e; cases hx
    intro pins s σ u I r
    exact un_neg pins s σ H _ u Q I r ⟨_, rfl, endVal st (.int _) h⟩
  · exact absurd rfl hn
  · cases e
end
end TM

namespace TM
open PySem PySem.Spec PyProof.Rows L2
variable [CNm]

/-! ### the sorts -/
theorem ins_perm (x : Int) : ∀ l : List Int, (ins x l).Perm (x :: l)
  | [] => List.Perm.refl _
  | y :: r => by
    unfold ins
    split
    · exact List.Perm.refl _
    · exact (List.Perm.cons y (ins_perm x r)).trans (List.Perm.swap x y r)
theorem srt_perm : ∀ l : List Int, (srt l).Perm l
  | [] => List.Perm.refl _
  | x :: r => (ins_perm x (srt r)).trans (List.Perm.cons x (srt_perm r))
theorem ins_sorted (x : Int) : ∀ l : List Int, l.Pairwise (· ≤ ·) → (ins x l).Pairwise (· ≤ ·)
  | [], _ => by simp [ins]
  | y :: r, h => by
    unfold ins
    have hy := List.pairwise_cons.mp h
    split
    · rename_i hc
      refine List.pairwise_cons.mpr ⟨fun z hz => ?_, h⟩
      rcases List.mem_cons.mp hz with rfl | hz
      · exact hc
      · exact Int.le_trans hc (hy.1 z hz)
    · rename_i hc
      refine List.pairwise_cons.mpr ⟨fun z hz => ?_, ins_sorted x r hy.2⟩
      rcases List.mem_cons.mp ((ins_perm x r).mem_iff.mp hz) with rfl | hz
      · omega
      · exact hy.1 z hz
theorem srt_sorted : ∀ l : List Int, (srt l).Pairwise (· ≤ ·)
  | [] => .nil
  | x :: r => ins_sorted x _ (srt_sorted r)
theorem srt_uniq {a b : List Int} (hp : a.Perm b) (h : a.Pairwise (· ≤ ·)) : a = srt b := (hp.trans (srt_perm b).symm).eq_of_pairwise (fun x y _ _ h1 h2 => Int.le_antisymm h1 h2) h (srt_sorted b)
theorem srt_length (l : List Int) : (srt l).length = l.length := (srt_perm l).length_eq
theorem ple_iff {x y : Int × Int} : ple x y = true ↔ x.1 < y.1 ∨ (x.1 = y.1 ∧ x.2 ≤ y.2) := by
  unfold ple
  simp
theorem insP_perm (x : Int × Int) : ∀ l : List (Int × Int), (insP x l).Perm (x :: l)
  | [] => List.Perm.refl _
  | y :: r => by
    unfold insP
    split
    · exact List.Perm.refl _
    · exact (List.Perm.cons y (insP_perm x r)).trans (List.Perm.swap x y r)
theorem srtP_perm : ∀ l : List (Int × Int), (srtP l).Perm l
  | [] => List.Perm.refl _
  | x :: r => (insP_perm x (srtP r)).trans (List.Perm.cons x (srtP_perm r))
theorem insP_sorted (x : Int × Int) : ∀ l : List (Int × Int), l.Pairwise (fun a b => ple a b = true) → (insP x l).Pairwise (fun a b => ple a b = true)
  | [], _ => by simp [insP]
  | y :: r, h => by
    unfold insP
    have hy := List.pairwise_cons.mp h
    split
    · rename_i hc
      refine List.pairwise_cons.mpr ⟨fun z hz => ?_, h⟩
      rcases List.mem_cons.mp hz with rfl | hz
      · exact hc
      · have h1 := ple_iff.mp hc
        have h2 := ple_iff.mp (hy.1 z hz)
        exact ple_iff.mpr (by omega)
    · rename_i hc
      refine List.pairwise_cons.mpr ⟨fun z hz => ?_, insP_sorted x r hy.2⟩
      rcases List.mem_cons.mp ((insP_perm x r).mem_iff.mp hz) with rfl | hz
      · have h1 : ¬ (z.1 < y.1 ∨ (z.1 = y.1 ∧ z.2 ≤ y.2)) := fun q => hc (ple_iff.mpr q)
        exact ple_iff.mpr (by omega)
      · exact hy.1 z hz
theorem srtP_sorted : ∀ l : List (Int × Int), (srtP l).Pairwise (fun a b => ple a b = true)
  | [] => .nil
  | x :: r => insP_sorted x _ (srtP_sorted r)
theorem srtP_uniq {a b : List (Int × Int)} (hp : a.Perm b) (h : a.Pairwise (fun a b => ple a b = true)) : a = srtP b := (hp.trans (srtP_perm b).symm).eq_of_pairwise (fun x y _ _ h1 h2 => by
  have a1 := ple_iff.mp h1
  have a2 := ple_iff.mp h2
  exact Prod.ext (by omega) (by omega)) h (srtP_sorted b)
theorem minL_ok : ∀ {l : List Int} {m : Int}, minL l = some m → m ∈ l ∧ ∀ y ∈ l, m ≤ y
  | [], m, h => by simp [minL] at h
  | x :: r, m, h => by
    unfold minL at h
    cases e : minL r with
    | none =>
      rw [e] at h
      cases h
      cases r with
      | nil => exact ⟨by simp, by simp⟩
      | cons z r => simp only [minL] at e; split at e <;> cases e
    | some k =>
      rw [e] at h
      obtain ⟨h1, h2⟩ := minL_ok e
      have h' : (if x ≤ k then x else k) = m := Option.some.inj h
      split at h'
      · subst h'
        exact ⟨by simp, fun y hy => by
          rcases List.mem_cons.mp hy with rfl | hy
          · omega
          · have := h2 y hy; omega⟩
      · subst h'
        exact ⟨List.mem_cons_of_mem _ h1, fun y hy => by
          rcases List.mem_cons.mp hy with rfl | hy
          · omega
          · exact h2 y hy⟩
theorem maxL_ok : ∀ {l : List Int} {m : Int}, maxL l = some m → m ∈ l ∧ ∀ y ∈ l, y ≤ m
  | [], m, h => by simp [maxL] at h
  | x :: r, m, h => by
    unfold maxL at h
    cases e : maxL r with
    | none =>
      rw [e] at h
      cases h
      cases r with
      | nil => exact ⟨by simp, by simp⟩
      | cons z r => simp only [maxL] at e; split at e <;> cases e
    | some k =>
      rw [e] at h
      obtain ⟨h1, h2⟩ := maxL_ok e
      have h' : (if k ≤ x then x else k) = m := Option.some.inj h
      split at h'
      · subst h'
        exact ⟨by simp, fun y hy => by
          rcases List.mem_cons.mp hy with rfl | hy
          · omega
          · have := h2 y hy; omega⟩
      · subst h'
        exact ⟨List.mem_cons_of_mem _ h1, fun y hy => by
          rcases List.mem_cons.mp hy with rfl | hy
          · omega
          · exact h2 y hy⟩

/-! ### the builtins -/
def bltVal : Blt → Value
  | .len => .builtin "len"
  | .abs => .builtin "abs"
  | .sum => .builtin "sum"
  | .min => .builtin "min"
  | .max => .builtin "max"
  | .sorted => .builtin "sorted"
  | .list => .type "list"
  | .tuple => .type "tuple"
  | .str => .type "str"
  | .int => .type "int"
  | .all => .builtin "all"
  | .any => .builtin "any"
  | .range => .type "range"
  | .isinst => .builtin "isinstance"
abbrev RepBs (g : Gh) (O : Os) (H : Hp) : List V → List RV → Prop := Paired (RepB g O H)
theorem RepBs.one {g : Gh} {O : Os} {H : Hp} {vs : List V} {a : RV} (h : RepBs g O H vs [a]) : ∃ v, vs = [v] ∧ RepB g O H v a := by
  cases h with
  | cons h t => cases t; exact ⟨_, rfl, h⟩
theorem RepBs.two {g : Gh} {O : Os} {H : Hp} {vs : List V} {a b : RV} (h : RepBs g O H vs [a, b]) : ∃ v u, vs = [v, u] ∧ RepB g O H v a ∧ RepB g O H u b := by
  cases h with
  | cons h t =>
    obtain ⟨u, rfl, h2⟩ := RepBs.one t
    exact ⟨_, _, rfl, h, h2⟩
/-- the pair that a tuple of two ints holds -/
theorem Reps.pairs {g : Gh} {O : Os} {H : Hp} : ∀ {vs : List V} {ds : List D} {ps : List (Int × Int)}, Reps g O H vs ds → asPairs ds = some ps → ∃ k : V → Int × Int, True ∧ Paired (fun v p => ∃ t, v = V.ref t ∧ H t = some (.tup [.int p.1, .int p.2])) vs ps
  | _, _, ps, .nil, e => by
    have e' : ([] : List (Int × Int)) = ps := Option.some.inj e
    subst e'
    exact ⟨fun _ => (0, 0), trivial, .nil⟩
  | _, _, ps, .cons (d := d) a b, e => by
    unfold asPairs at e
    split at e
    · rename_i h; cases h
    · rename_i i j r h
      cases h
      simp only [Option.map_eq_some_iff] at e
      obtain ⟨qs, e1, rfl⟩ := e
      obtain ⟨k, _, p⟩ := Reps.pairs b e1
      refine ⟨k, trivial, .cons ?_ p⟩
      cases a with
      | tup h r =>
        cases r with
        | cons r1 r2 =>
          cases r1
          cases r2 with
          | cons r2 r3 =>
            cases r2; cases r3
            exact ⟨_, rfl, h⟩
    · cases e
/-- a key that tells the pair of a tuple's place -/
noncomputable def keyOf (H : Hp) (v : V) : Int × Int := match v with
  | .ref t => (match H t with
    | some (.tup [.int i, .int j]) => (i, j)
    | _ => (0, 0))
  | _ => (0, 0)
theorem keyOf_of {H : Hp} {t : Addr} {i j : Int} (h : H t = some (.tup [.int i, .int j])) : keyOf H (.ref t) = (i, j) := by
  unfold keyOf
  simp only [h]
theorem paired_key {H : Hp} : ∀ {vs : List V} {ps : List (Int × Int)}, Paired (fun v p => ∃ t, v = V.ref t ∧ H t = some (.tup [.int p.1, .int p.2])) vs ps → vs.map (keyOf H) = ps ∧ ∀ v ∈ vs, ∃ t, v = V.ref t ∧ H t = some (.tup [.int (keyOf H v).1, .int (keyOf H v).2])
  | _, _, .nil => ⟨rfl, fun _ h => nomatch h⟩
  | _, _, .cons (a := v) (b := p) h t => by
    obtain ⟨e1, e2⟩ := paired_key t
    obtain ⟨a, rfl, ha⟩ := h
    have k := keyOf_of ha
    refine ⟨by rw [List.map_cons, k, e1], fun v hv => ?_⟩
    rcases List.mem_cons.mp hv with rfl | hv
    · exact ⟨a, rfl, by rw [k]; exact ha⟩
    · exact e2 v hv
theorem reps_key {g : Gh} {O : Os} {H : Hp} : ∀ {vs : List V}, (∀ v ∈ vs, ∃ t, v = V.ref t ∧ H t = some (.tup [.int (keyOf H v).1, .int (keyOf H v).2])) → Reps g O H vs ((vs.map (keyOf H)).map fun p => .tuple [.int p.1, .int p.2])
  | [], _ => .nil
  | v :: r, h => by
    obtain ⟨t, e, ht⟩ := h v List.mem_cons_self
    refine .cons ?_ (reps_key fun v hv => h v (List.mem_cons_of_mem _ hv))
    generalize keyOf H v = k at ht ⊢
    rw [e]
    exact .tup ht (.cons (.int _) (.cons (.int _) .nil))
section
variable {X : Cx} {H H0 : Hp} {O : Os} {g : Gh} {w : Wd} {Q : VK} {vs : List V} {rs : List RV} {rz : RV}
theorem sortOp_ok {a : Addr} {ds : List D} (st : St3 X.K H O g w) (hb : ∀ p, H p = none → H0 p = none) (hx : LAt g O H a ds) (e : sortOp ds = some rz) (h : Pst X.K H O g (R.ok rz w) (CV H0 Q)) : cW X (.builtin "sorted") [.ref a] H Q := by
  obtain ⟨vs, ha, ra⟩ := hx
  unfold sortOp at e
  split at e
  · rename_i ns en
    cases e
    have e1 := ra.ints en
    subst e1
    refine CallR.w cr_sortedI ⟨a, ns, rfl, SqL.of ha, fun ns' p h1 h2 hp => ?_⟩
    have e2 := srt_uniq h1 h2
    subst e2
    exact endOwn st hb (reps_ints _) h hp
  · split at e
    · rename_i ps ep
      cases e
      obtain ⟨_, _, pr⟩ := ra.pairs ep
      obtain ⟨k1, k2⟩ := paired_key pr
      refine CallR.w cr_sortedPO ⟨a, vs, keyOf H, rfl, SqL.of ha, k2, fun ys p h1 h2 hp => ?_⟩
      have hm : ys.map (keyOf H) = srtP ps := by
        refine srtP_uniq ?_ ?_
        · rw [← k1]
          exact h2.perm.map _
        · refine List.pairwise_map.mpr (List.Pairwise.imp (fun {x y} hxy => ?_) h1)
          have hxy' : SrtO.lexB (keyOf H y) (keyOf H x) = false := hxy
          have := SrtO.lexB_no.mp hxy'
          exact ple_iff.mpr (by omega)
      have r2 : Reps g O H ys ((srtP ps).map fun p => .tuple [.int p.1, .int p.2]) := by
        rw [← hm]
        exact reps_key fun v hv => k2 v (h2.perm.mem_iff.mp hv)
      exact endOwn st hb r2 h hp
    · cases e
theorem bltop_ok {b : Blt} (hc : X.calm = true) (st : St3 X.K H O g w) (hb : ∀ p, H p = none → H0 p = none) (hx : RepBs g O H vs rs) (e : bltop b rs = some rz) (h : Pst X.K H O g (R.ok rz w) (CV H0 Q)) : cW X (bltVal b) vs H Q := by
  unfold bltop at e
  split at e
  · rename_i ds
    cases e
    obtain ⟨v, rfl, h1⟩ := hx.one
    have h1' : Rep g O H v (.tuple ds) := h1
    cases h1' with
    | tup hz r1 =>
      refine CallR.w call_len_seq ⟨_, _, rfl, .inr (SqT.of hz), ?_⟩
      rw [r1.length]
      exact endVal st (.int _) h
  · split at e
    · rename_i hl
      cases e
      obtain ⟨v, rfl, h1⟩ := hx.one
      cases h1
      exact CallR.w call_len_str ⟨_, rfl, Nat.le_trans hl cap_line, endVal st (.int _) h⟩
    · cases e
  · obtain ⟨v, rfl, h1⟩ := hx.one
    simp only [Option.map_eq_some_iff] at e
    obtain ⟨ds, e1, rfl⟩ := e
    obtain ⟨a, rfl, vs, ha, ra⟩ := h1.lst e1
    refine CallR.w call_len_seq ⟨_, _, rfl, .inl (SqL.of ha), ?_⟩
    rw [ra.length]
    exact endVal st (.int _) h
  · cases e
    obtain ⟨v, rfl, h1⟩ := hx.one
    cases h1
    exact CallR.w call_abs ⟨_, rfl, endVal st (.int _) h⟩
  · obtain ⟨v, rfl, h1⟩ := hx.one
    simp only [Option.map_eq_some_iff, Option.bind_eq_some_iff] at e
    obtain ⟨ns, ⟨ds, e1, e2⟩, rfl⟩ := e
    obtain ⟨a, rfl, vs, ha, ra⟩ := h1.lst e1
    have e3 := ra.ints e2
    subst e3
    exact CallR.w (cr_sum hc) ⟨a, ns, rfl, SqL.of ha, endVal st (.int _) h⟩
  · obtain ⟨v, rfl, h1⟩ := hx.one
    simp only [Option.map_eq_some_iff, Option.bind_eq_some_iff] at e
    obtain ⟨m, ⟨ns, ⟨ds, e1, e2⟩, e4⟩, rfl⟩ := e
    obtain ⟨a, rfl, vs, ha, ra⟩ := h1.lst e1
    have e3 := ra.ints e2
    subst e3
    obtain ⟨m1, m2⟩ := minL_ok e4
    refine CallR.w (cr_min hc) ⟨a, ns, rfl, SqL.of ha, List.length_pos_of_mem m1, fun m' h1 h2 => ?_⟩
    have : m' = m := Int.le_antisymm (h2 m m1) (m2 m' h1)
    subst this
    exact endVal st (.int _) h
  · obtain ⟨v, rfl, h1⟩ := hx.one
    simp only [Option.map_eq_some_iff, Option.bind_eq_some_iff] at e
    obtain ⟨m, ⟨ns, ⟨ds, e1, e2⟩, e4⟩, rfl⟩ := e
    obtain ⟨a, rfl, vs, ha, ra⟩ := h1.lst e1
    have e3 := ra.ints e2
    subst e3
    obtain ⟨m1, m2⟩ := maxL_ok e4
    refine CallR.w (cr_max hc) ⟨a, ns, rfl, SqL.of ha, List.length_pos_of_mem m1, fun m' h1 h2 => ?_⟩
    have : m' = m := Int.le_antisymm (m2 m' h1) (h2 m m1)
    subst this
    exact endVal st (.int _) h
  · cases e
    obtain ⟨v, u, rfl, h1, h2⟩ := hx.two
    cases h1; cases h2
    exact CallR.w (call_min2 hc) ⟨_, _, rfl, endVal st (.int _) h⟩
  · cases e
    obtain ⟨v, u, rfl, h1, h2⟩ := hx.two
    cases h1; cases h2
    exact CallR.w (call_max2 hc) ⟨_, _, rfl, endVal st (.int _) h⟩
  · obtain ⟨v, rfl, h1⟩ := hx.one
    simp only [Option.bind_eq_some_iff] at e
    obtain ⟨ds, e1, e2⟩ := e
    obtain ⟨a, rfl, l⟩ := h1.lst e1
    exact sortOp_ok st hb l e2 h
  · rename_i ds
    cases e
    obtain ⟨v, rfl, h1⟩ := hx.one
    have h1' : Rep g O H v (.tuple ds) := h1
    cases h1' with
    | tup hz r1 => exact CallR.w call_list_of ⟨_, _, rfl, .inr (SqT.of hz), fun p hp => endOwn st hb r1 h hp⟩
  · obtain ⟨v, rfl, h1⟩ := hx.one
    simp only [Option.map_eq_some_iff] at e
    obtain ⟨ds, e1, rfl⟩ := e
    obtain ⟨a, rfl, vs, ha, ra⟩ := h1.lst e1
    exact CallR.w call_list_of ⟨_, _, rfl, .inl (SqL.of ha), fun p hp => endOwn st hb ra h hp⟩
  · rename_i ds
    cases e
    obtain ⟨v, rfl, h1⟩ := hx.one
    have h1' : Rep g O H v (.tuple ds) := h1
    cases h1' with
    | tup hz r1 => exact CallR.w call_tuple_of ⟨_, _, rfl, .inr ⟨SqT.of hz, endVal st (.tup hz r1) h⟩⟩
  · obtain ⟨v, rfl, h1⟩ := hx.one
    simp only [Option.map_eq_some_iff] at e
    obtain ⟨ds, e1, rfl⟩ := e
    obtain ⟨a, rfl, vs, ha, ra⟩ := h1.lst e1
    exact CallR.w call_tuple_of ⟨_, _, rfl, .inl ⟨SqL.of ha, fun p hp => endTup st ra h hp⟩⟩
  · split at e
    · rename_i hl
      cases e
      obtain ⟨v, rfl, h1⟩ := hx.one
      cases h1
      exact CallR.w call_str_int ⟨_, rfl, hl, endVal st (.str _) h⟩
    · cases e
  · obtain ⟨v, rfl, h1⟩ := hx.one
    simp only [Option.map_eq_some_iff, Option.bind_eq_some_iff] at e
    obtain ⟨ns, ⟨ds, e1, e2⟩, rfl⟩ := e
    obtain ⟨a, rfl, vs, ha, ra⟩ := h1.lst e1
    have e3 := ra.bools e2
    subst e3
    exact CallR.w (cr_all hc) ⟨a, ns, rfl, SqL.of ha, endVal st (.bl _) h⟩
  · obtain ⟨v, rfl, h1⟩ := hx.one
    simp only [Option.map_eq_some_iff, Option.bind_eq_some_iff] at e
    obtain ⟨ns, ⟨ds, e1, e2⟩, rfl⟩ := e
    obtain ⟨a, rfl, vs, ha, ra⟩ := h1.lst e1
    have e3 := ra.bools e2
    subst e3
    exact CallR.w (cr_any hc) ⟨a, ns, rfl, SqL.of ha, endVal st (.bl _) h⟩
  · cases e
end
end TM

namespace TM
open PySem PySem.Spec PyProof.Rows L2
variable [CNm]

theorem _root_.L2.PE.imp {X : Cx} {e : Expr} {t t' : TE} (h : PE X e t) (f : ∀ σ H Q, t' σ H Q → t σ H Q) : PE X e t' := ⟨fun pins s σ H Q I q => h.run pins s σ H Q I (f σ H Q q)⟩
theorem _root_.L2.PT.imp {X : Cx} {e : Expr} {t t' : TT} (h : PT X e t) (f : ∀ σ H Q, t' σ H Q → t σ H Q) : PT X e t' := ⟨fun pins s σ H Q I q => h.run pins s σ H Q I (f σ H Q q)⟩
theorem _root_.L2.PW.imp {X : Cx} {e : Expr} {t t' : TT} (h : PW X e t) (f : ∀ σ H Q, t' σ H Q → t σ H Q) : PW X e t' := ⟨fun wh pins s σ H Q I q => h.run wh pins s σ H Q I (f σ H Q q)⟩
theorem _root_.L2.PA.imp {X : Cx} {e : List Expr} {t t' : TA} (h : PA X e t) (f : ∀ σ H Q, t' σ H Q → t σ H Q) : PA X e t' := ⟨fun pos pins s σ H Q I q => h.run pos pins s σ H Q I (f σ H Q q)⟩
theorem _root_.L2.PO.imp {X : Cx} {e : Option Expr} {t t' : TO} (h : PO X e t) (f : ∀ σ H Q, t' σ H Q → t σ H Q) : PO X e t' := ⟨fun pins s σ H Q I q => h.run pins s σ H Q I (f σ H Q q)⟩
theorem _root_.L2.PG.imp {X : Cx} {e : Expr} {t t' : TG} (h : PG X e t) (f : ∀ v σ H Q, t' v σ H Q → t v σ H Q) : PG X e t' := ⟨fun pins s σ H v u Q I r q => h.run pins s σ H v u Q I r (f v σ H Q q)⟩
theorem _root_.L2.PSs.imp {X : Cx} {e : List Stmt} {t t' : TS} (h : PSs X e t) (f : ∀ D σ H, t' D σ H → t D σ H) : PSs X e t' := ⟨fun pins s σ H D I q => h.run pins s σ H D I (f D σ H q)⟩
theorem _root_.L2.PS.imp {X : Cx} {e : Stmt} {t t' : TS} (h : PS X e t) (f : ∀ D σ H, t' D σ H → t D σ H) : PS X e t' := ⟨fun pins s σ H D I q => h.run pins s σ H D I (f D σ H q)⟩

/-- as Pst, an exception wished as W -/
def PstX {α : Type} (K : PySem.W.Frag) (H : Hp) (O : Os) (g : Gh) (m : R α) (C : α → Wd → Hp → Os → Gh → Prop) (W : Str → Hp → Prop) : Prop := match m with
  | .ok a w => ∀ H' O' g', Evo H O g H' O' g' → St3 K H' O' g' w → C a w H' O' g'
  | .exc c w => ∀ H' O' g', Evo H O g H' O' g' → St3 K H' O' g' w → W c H'
  | .bad => False
theorem Pst.x {α : Type} {K : PySem.W.Frag} {H : Hp} {O : Os} {g : Gh} {m : R α} {C : α → Wd → Hp → Os → Gh → Prop} {W : Str → Hp → Prop} (h : Pst K H O g m C) : PstX K H O g m C W := by
  cases m with
  | ok a w => exact h
  | exc c w => exact (h : False).elim
  | bad => exact h
/-- the promise of a def, by its answer -/
def spT (K : PySem.W.Frag) (T : List D → Wd → R RV) : Sp := fun vs H Q E => ∃ O g w ds, St3 K H O g w ∧ Reps g O H vs ds ∧ PstX K H O g (T ds w) (CV H Q) fun c H' => E (.ref (CNm.nm c)) none H'
/-- an own class of exceptions, l the names of what it is a kind of -/
structure XcOk (K : PySem.W.Frag) (mg : Str → Option Value) (xs : Str → Option (List Str)) (c : Str) (l : List Str) : Prop where
  m : mg c = some (.ref (CNm.nm c))
  q : PySem.W.excIn K (CNm.nm c) He.veBase "ValueError.__new__" = true
  kp : PySem.W.keepIn K (.ref (CNm.nm c)) = true
  sb : PySem.W.subIn K (.ref (CNm.nm c)) (.type "BaseException") = some true
  ty : PySem.W.typeIn K (.ref (CNm.nm c)) = some (.type "type")
  is : ∀ t, (xs t).isSome = true → PySem.W.exmOne K (.ref (CNm.nm c)) (.ref (CNm.nm t)) = some (l.contains t)
  kit : ∀ t, (xs t).isSome = true → PySem.W.kitOne K (.ref (CNm.nm c)) (.ref (CNm.nm t)) = some (l.contains t)
  kve : PySem.W.kitOne K (.ref (CNm.nm c)) (.type "ValueError") = some (l.contains "ValueError")
  ec : ExcC K (CNm.nm c)
def tyNames : List Str := ["int", "bool", "list", "tuple", "str"]
/-- the promise of the watcher's __init__: a new object at x, its dict at dx -/
def spI (K : PySem.W.Frag) (T : List D → Wd → R RV) : Sp := fun vs H Q E => ∃ x dx H1 rest O g w ds, vs = .ref x :: rest ∧ H = upd (upd H1 dx (.own x)) x (.ins (He.ga K "Watcher") dx []) ∧ H1 x = none ∧ H1 dx = none ∧ dx ≠ x ∧ St3 K H1 O g w ∧ Reps g O H1 rest ds ∧
  PstX K H1 O g (T ds w) (fun r _ H' O' g' => RepV g' O' H1 H' (.ref x) r → Q .non H') fun c H' => E (.ref (CNm.nm c)) none H'
/-- what stands of a method -/
structure MtOk (P : Program) (w : World) (K : PySem.W.Frag) (mg : Str → Option Value) (base : Heap) (k : Nat) (T : Tab) (m z : Str) : Prop where
  ex : ∃ f fd ps, Meth K (He.ga K "Watcher") m f ∧ Binds K fd ps [] ∧ FnOk P w K mg base (L2.CX P w) k f fd ps (spT K (T z))
structure WtOk (P : Program) (w : World) (K : PySem.W.Frag) (mg : Str → Option Value) (base : Heap) (k : Nat) (T : Tab) (wt : Str → Bool) : Prop where
  mt : ∀ m z, wTab.lookup m = some z → wt z = true → MtOk P w K mg base k T m z
  cl : Cls K (He.ga K "Watcher")
  mak : ∃ f fd ps, Mk K (He.ga K "Watcher") f ∧ Binds K fd ps [] ∧ FnOk P w K mg base (L2.CX P w) k f fd ps (spI K (T "Watcher.__init__"))
  nm : mg "Watcher" = some (.ref (He.ga K "Watcher"))
structure Good (X : Cx) (G : Cn) (k : Nat) : Prop where
  calm : X.calm = true
  nd : X.N.Nodup
  N : X.N = G.N
  kind : X.env.scope.kind = .function
  room1 : Room (k + 1) X.A
  dfn : ∀ f, G.dfn f = true → ∃ a fd ps, X.mg f = some (.ref a) ∧ PySem.W.keepIn X.K (.ref a) = true ∧ Binds X.K fd ps [] ∧ FnOk X.prog X.w X.K X.mg X.base (L2.CX X.prog X.w) k a fd ps (spT X.K (G.T f))
  blt : ∀ x b, G.dfn x = false → bltTab.lookup x = some b → X.mg x = none
  ty : ∀ t ∈ tyNames, X.mg t = none
  xcl : ∀ c l, G.xs c = some l → XcOk X.K X.mg G.xs c l
  mve : (∃ c, (G.xs c).isSome = true) → X.mg "ValueError" = none
  wts : (∃ z, G.wt z = true) → WtOk X.prog X.w X.K X.mg X.base k G.T G.wt
  cst : ∀ x d, G.cst x = some d → ∃ v u, X.mg x = some u ∧ RelV v u ∧ ∀ g O H, Rep g O H v d

theorem Good.room {X : Cx} {G : Cn} {k : Nat} (gd : Good X G k) : Room k X.A := gd.room1.mono (Nat.le_succ k)
theorem idx_get : ∀ {N : List Str} {x : Str} {i : Nat}, idx N x = some i → N[i]? = some x
  | [], _, _, h => by simp [idx] at h
  | y :: r, x, i, h => by
    unfold idx at h
    split at h
    · rename_i e
      cases h
      simp [e]
    · simp only [Option.map_eq_some_iff] at h
      obtain ⟨j, h1, rfl⟩ := h
      simpa using idx_get h1

/-! ### the looks at a text -/
def glB (sc : Scope) (x : Str) : Bool := decide (sc.names.lookup x = some .globalImplicit) && !(x == ("__debug__" : Str))
def visB (sc : Scope) (x : Str) : Bool := (decide (sc.names.lookup x = some .local) || decide (sc.names.lookup x = some .cell) || decide (sc.names.lookup x = some .free)) && !(x == ("__debug__" : Str)) && !(x == ("__classdict__" : Str))
def nameB (N : List Str) (sc : Scope) (x : Str) : Bool := match idx N x with
  | some _ => visB sc x
  | none => glB sc x
def noIf : Expr → Bool
  | .IfExp _ _ _ _ => false
  | _ => true
def chkTg1 (N : List Str) (own : List (Str × Nat)) (sc : Scope) (e : Expr) : Bool := match e with
  | .Name x _ => (match idx N x with
    | some i => decide (sc.names.lookup x = some .local) && decide (i ∈ own.map (·.2))
    | none => false)
  | _ => false
def chkTg (N : List Str) (own : List (Str × Nat)) (sc : Scope) (e : Expr) : Bool := match e with
  | .Tuple es _ _ => es.all (chkTg1 N own sc)
  | e => chkTg1 N own sc e
def argsOk (c : Expr → Bool) (e : Expr) : Bool := match e with
  | .Call _ as _ _ => as.all c
  | _ => true
def chk : Nat → List Str → Scope → Expr → Bool
  | 0, _, _, _ => false
  | n + 1, N, sc, e => match e with
    | .Constant _ _ _ => true
    | .Name x _ => nameB N sc x
    | .BinOp a _ b _ => chk n N sc a && chk n N sc b
    | .UnaryOp _ a _ => chk n N sc a && noIf a
    | .BoolOp _ es _ => es.all fun e => chk n N sc e && noIf e
    | .IfExp t a b _ => chk n N sc t && noIf t && chk n N sc a && chk n N sc b
    | .Compare a _ bs _ => chk n N sc a && bs.all (chk n N sc)
    | .Tuple es _ _ => es.all (chk n N sc)
    | .List es _ => es.all (chk n N sc)
    | .Subscript a b _ => chk n N sc a && (match b with
      | .Slice lo hi _ _ => lo.all (chk n N sc) && hi.all (chk n N sc)
      | b => chk n N sc b)
    | .Call g args kws pos => kws.isEmpty && (args.all fun e => chk n N sc e && argsOk (chk n N sc) e) && (match g with
      | .Name x _ => glB sc x
      | .Attribute (.Name x _) _ ap => nameB N sc x && (ap.endLine == pos.line)
      | .Attribute (.Constant (.str _) _ _) _ ap => ap.endLine == pos.line
      | _ => false)
    | .ListComp elt gens scope _ => (match gens with
      | [⟨tg, iter, ifs, _⟩] => chk n N sc iter && argsOk (chk n N sc) iter && L2.blkC N sc scope (ownOf N scope) && chkTg N (ownOf N scope) (L2.relS scope sc) tg && (ifs.all fun e => chk n N (L2.relS scope sc) e && noIf e) && chk n N (L2.relS scope sc) elt
      | _ => false)
    | .FormattedValue a _ _ _ => chk n N sc a
    | .JoinedStr es _ => es.all (chk n N sc)
    | .Dict _ _ _ => true
    | _ => false

section
variable {X : Cx} {G : Cn} {n k : Nat} {pos : Pos} {e a b c : Expr}
/-- nothing is asked of what has no answer -/
theorem pe_bad (h : ∀ s w, ev n G s e w = .bad) : PE X e (tE X.K n G e) := ⟨fun pins s σ H Q I q => by
  obtain ⟨sl, O, g, w, _, _, q⟩ := q
  rw [h] at q
  exact q.elim⟩
theorem pe_no (h : ∀ s w r w', ev n G s e w ≠ .ok r w') : PE X e (tE X.K n G e) := ⟨fun pins s σ H Q I q => by
  obtain ⟨sl, O, g, w, _, _, q⟩ := q
  cases hv : ev n G sl e w with
  | ok r w' => exact absurd hv (h _ _ _ _)
  | exc c w' => rw [hv] at q; exact q.elim
  | bad => rw [hv] at q; exact q.elim⟩
theorem vis_of {sc : Scope} {x : Str} (h : visB sc x = true) : Vis sc x ∧ (x == ("__debug__" : Str)) = false ∧ (x == ("__classdict__" : Str)) = false := by
  unfold visB at h
  simp only [Bool.and_eq_true, Bool.or_eq_true, decide_eq_true_eq, Bool.not_eq_true'] at h
  refine ⟨?_, h.1.2, h.2⟩
  rcases h.1.1 with (h | h) | h
  · exact .inl h
  · exact .inr (.inl h)
  · exact .inr (.inr h)
theorem gl_of {x : Str} (h : glB X.env.scope x = true) : Gl X x ∧ (x == ("__debug__" : Str)) = false := by
  unfold glB at h
  simp only [Bool.and_eq_true, decide_eq_true_eq, Bool.not_eq_true'] at h
  exact ⟨h.1, h.2⟩
theorem sv_const {cn : Const} {j : Nat} : PE X (.Constant cn j pos) (tE X.K (n + 1) G (.Constant cn j pos)) := by
  cases cn with
  | none => exact pe_non.imp fun σ H Q ⟨s, O, g, w, sr, st, h⟩ => endVal st .non h
  | bool b => exact pe_bl.imp fun σ H Q ⟨s, O, g, w, sr, st, h⟩ => endVal st (.bl b) h
  | int i => exact pe_int.imp fun σ H Q ⟨s, O, g, w, sr, st, h⟩ => endVal st (.int i) h
  | str x => exact pe_str.imp fun σ H Q ⟨s, O, g, w, sr, st, h⟩ => endVal st (.str x) h
  | _ => exact pe_bad fun _ _ => rfl
theorem SRep.read {g : Gh} {O : Os} {H : Hp} {σ : L2.St} {s : Sl} (sr : SRep g O H σ s) {i : Nat} {w w' : Wd} {r : RV} (h : slotW s[i]? w = .ok r w') : w' = w ∧ ∃ v, σ[i]? = some (some v) ∧ ∀ H0, RepV g O H0 H v r := by
  unfold slotW at h
  split at h
  · rename_i d e
    cases h
    obtain ⟨v, h1, h2⟩ := sr.at' i _ e
    exact ⟨rfl, v, h1, fun _ => h2⟩
  · rename_i ds e
    cases h
    obtain ⟨v, h1, a, rfl, o, n, l⟩ := sr.at' i _ e
    exact ⟨rfl, _, h1, fun _ => ⟨a, rfl, o, n, l⟩⟩
  · cases h
theorem sv_name {x : Str} (gd : Good X G k) (hc : nameB G.N X.env.scope x = true) : PE X (.Name x pos) (tE X.K (n + 1) G (.Name x pos)) := by
  unfold nameB at hc
  cases hi : idx G.N x with
  | some i =>
    rw [hi] at hc
    obtain ⟨h1, h2, h3⟩ := vis_of hc
    refine (pe_var (i := i) (by rw [gd.N]; exact idx_get hi) h1 h2 h3).imp fun σ H Q ⟨s, O, g, w, sr, st, h⟩ => ?_
    have h' : Pst X.K H O g (nameW G x s w) (CV H Q) := h
    unfold nameW at h'
    rw [hi] at h'
    dsimp only at h'
    cases hs : slotW s[i]? w with
    | ok r w' =>
      rw [hs] at h'
      obtain ⟨rfl, v, h1, h2⟩ := sr.read hs
      exact ⟨v, h1, h' _ _ _ Evo.refl st v (h2 H)⟩
    | exc c w' => rw [hs] at h'; exact h'.elim
    | bad => rw [hs] at h'; exact h'.elim
  | none =>
    rw [hi] at hc
    obtain ⟨h1, h2⟩ := gl_of hc
    cases hv : G.cst x with
    | none =>
      refine pe_bad fun s w => ?_
      show nameW G x s w = .bad
      unfold nameW
      rw [hi]
      dsimp only
      rw [hv]
      rfl
    | some d =>
      obtain ⟨v, u, m, r, rp⟩ := gd.cst x d hv
      refine (pe_glob h1 m r h2).imp fun σ H Q ⟨s, O, g, w, sr, st, h⟩ => ?_
      have h' : Pst X.K H O g (nameW G x s w) (CV H Q) := h
      unfold nameW at h'
      rw [hi, hv] at h'
      exact endVal st (rp _ _ _) h'
theorem sv_bin {op : Operator} (ha : PE X a (tE X.K n G a)) (hb : PE X b (tE X.K n G b)) : PE X (.BinOp a op b pos) (tE X.K (n + 1) G (.BinOp a op b pos)) := by
  refine (pe_op opW ha hb).imp fun σ H Q ⟨s, O, g, w, sr, st, h⟩ => ?_
  have h' : Pst X.K H O g (binW (ev n G s) a op b w) (CV H Q) := h
  refine ⟨s, O, g, w, sr, st, h'.bind.mono fun rx w1 H1 O1 g1 e1 s1 hx v rv => ⟨s, O1, g1, w1, sr.evo st e1, s1, (hx _ _ _ e1 s1).bind.mono fun ry w2 H2 O2 g2 e2 s2 hy u ru => ?_⟩⟩
  obtain ⟨rz, ez, hz⟩ := (hy _ _ _ e2 s2).of
  exact binop_ok s2 (fun p hp => e1.back (e2.back hp)) (s1.repB e2 rv.b) ru.b ez hz
theorem sv_un {op : UnaryOp} (ha : PE X a (tE X.K n G a)) : PE X (.UnaryOp op a pos) (tE X.K (n + 1) G (.UnaryOp op a pos)) := by
  by_cases ho : op = .Not
  · subst ho
    refine (pe_not ha).imp fun σ H Q ⟨s, O, g, w, sr, st, h⟩ => ?_
    have h' : Pst X.K H O g (unW (ev n G s) .Not a w) (CV H Q) := h
    refine ⟨s, O, g, w, sr, st, h'.bind.mono fun rx w1 H1 O1 g1 e1 s1 hx v rv => ?_⟩
    obtain ⟨rz, ez, hz⟩ := (hx _ _ _ e1 s1).of
    unfold unop at ez
    split at ez
    · rename_i h1; cases h1
    · cases ez
      cases rv
      exact ⟨_, rfl, endVal s1 (.bl _) hz⟩
    · cases ez
  · refine (pe_un unW' ha).imp fun σ H Q ⟨s, O, g, w, sr, st, h⟩ => ?_
    have h' : Pst X.K H O g (unW (ev n G s) op a w) (CV H Q) := h
    refine ⟨s, O, g, w, sr, st, h'.bind.mono fun rx w1 H1 O1 g1 e1 s1 hx v rv => ?_⟩
    obtain ⟨rz, ez, hz⟩ := (hx _ _ _ e1 s1).of
    exact unop_ok s1 rv.b ez ho hz
theorem Nxt.now {β : Type} {K : PySem.W.Frag} {H H' : Hp} {O O' : Os} {g g' : Gh} {m : R β} {w : Wd} {C : β → Wd → Hp → Os → Gh → Prop} (h : Nxt K H O g m w C) (e : Evo H O g H' O' g') (s : St3 K H' O' g' w) : Pst K H' O' g' m C := h _ _ _ e s
def tAndL (K : PySem.W.Frag) (n : Nat) (G : Cn) (es : List Expr) : TE := fun σ H Q => ∃ s O g w, SRep g O H σ s ∧ St3 K H O g w ∧ Pst K H O g (andW (ev n G s) es w) (CV H Q)
def tOrL (K : PySem.W.Frag) (n : Nat) (G : Cn) (es : List Expr) : TE := fun σ H Q => ∃ s O g w, SRep g O H σ s ∧ St3 K H O g w ∧ Pst K H O g (orW (ev n G s) es w) (CV H Q)
theorem sv_and : ∀ {es : List Expr}, (∀ e ∈ es, PE X e (tE X.K n G e)) → PE X (.BoolOp .And es pos) (tAndL X.K n G es)
  | [], _ => ⟨fun pins s σ H Q I ⟨sl, O, g, w, _, _, q⟩ => (q : False).elim⟩
  | [a], ih => by
    refine (pe_one (ih a (by simp))).imp fun σ H Q ⟨s, O, g, w, sr, st, h⟩ => ?_
    refine ⟨s, O, g, w, sr, st, h.bind.mono fun rx w1 H1 O1 g1 e1 s1 hx v rv => ?_⟩
    have hx := hx.now e1 s1
    dsimp only at hx
    split at hx
    · exact hx _ _ _ Evo.refl s1 v rv
    · exact hx _ _ _ Evo.refl s1 v rv
    · exact hx.elim
  | a :: b :: r, ih => by
    have hr := sv_and (es := b :: r) fun e he => ih e (List.mem_cons_of_mem _ he)
    refine (pe_and (ih a (by simp)) hr).imp fun σ H Q ⟨s, O, g, w, sr, st, h⟩ => ?_
    have h' : Pst X.K H O g ((ev n G s a w).bind fun v w => match v with
      | .val (.bool true) => andW (ev n G s) (b :: r) w
      | .val (.bool false) => .ok (.val (.bool false)) w
      | _ => .bad) (CV H Q) := h
    refine ⟨s, O, g, w, sr, st, h'.bind.mono fun rx w1 H1 O1 g1 e1 s1 hx v rv => ?_⟩
    have hx := hx.now e1 s1
    split at hx
    · cases rv
      refine ⟨true, rfl, ?_⟩
      rw [if_pos rfl]
      exact ⟨s, O1, g1, w1, sr.evo st e1, s1, hx.mono fun rz w2 H2 O2 g2 e2 s2 hz v rz => hz v (rz.from e1)⟩
    · cases rv
      refine ⟨false, rfl, ?_⟩
      rw [if_neg (by decide)]
      exact endVal s1 (.bl _) hx
    · exact hx.elim
theorem sv_or : ∀ {es : List Expr}, (∀ e ∈ es, PE X e (tE X.K n G e)) → PE X (.BoolOp .Or es pos) (tOrL X.K n G es)
  | [], _ => ⟨fun pins s σ H Q I ⟨sl, O, g, w, _, _, q⟩ => (q : False).elim⟩
  | [a], ih => by
    refine (pe_one (ih a (by simp))).imp fun σ H Q ⟨s, O, g, w, sr, st, h⟩ => ?_
    refine ⟨s, O, g, w, sr, st, h.bind.mono fun rx w1 H1 O1 g1 e1 s1 hx v rv => ?_⟩
    have hx := hx.now e1 s1
    dsimp only at hx
    split at hx
    · exact hx _ _ _ Evo.refl s1 v rv
    · exact hx _ _ _ Evo.refl s1 v rv
    · exact hx.elim
  | a :: b :: r, ih => by
    have hr := sv_or (es := b :: r) fun e he => ih e (List.mem_cons_of_mem _ he)
    refine (pe_or (ih a (by simp)) hr).imp fun σ H Q ⟨s, O, g, w, sr, st, h⟩ => ?_
    have h' : Pst X.K H O g ((ev n G s a w).bind fun v w => match v with
      | .val (.bool false) => orW (ev n G s) (b :: r) w
      | .val (.bool true) => .ok (.val (.bool true)) w
      | _ => .bad) (CV H Q) := h
    refine ⟨s, O, g, w, sr, st, h'.bind.mono fun rx w1 H1 O1 g1 e1 s1 hx v rv => ?_⟩
    have hx := hx.now e1 s1
    split at hx
    · cases rv
      refine ⟨false, rfl, ?_⟩
      rw [if_neg (by decide)]
      exact ⟨s, O1, g1, w1, sr.evo st e1, s1, hx.mono fun rz w2 H2 O2 g2 e2 s2 hz v rz => hz v (rz.from e1)⟩
    · cases rv
      refine ⟨true, rfl, ?_⟩
      rw [if_pos rfl]
      exact endVal s1 (.bl _) hx
    · exact hx.elim
theorem sv_bool {op : PySem.BoolOp} {es : List Expr} (ih : ∀ e ∈ es, PE X e (tE X.K n G e)) : PE X (.BoolOp op es pos) (tE X.K (n + 1) G (.BoolOp op es pos)) := by
  cases op with
  | And => exact (sv_and ih).imp fun σ H Q h => h
  | Or => exact (sv_or ih).imp fun σ H Q h => h

/-! ### tests -/
def CB (Q : Bool → Hp → Prop) : Bool → Wd → Hp → Os → Gh → Prop := fun b _ H' _ _ => Q b H'
def tT (K : PySem.W.Frag) (n : Nat) (G : Cn) (e : Expr) : TT := fun σ H Q => ∃ s O g w, SRep g O H σ s ∧ St3 K H O g w ∧ Pst K H O g (tstW (ev n G s) e w) (CB Q)
theorem boolOf_some {r : RV} {b : Bool} (h : boolOf r = some b) : r = .val (.bool b) := by
  unfold boolOf at h
  split at h
  · cases h; rfl
  · cases h
/-- a value that is a bool, as a test -/
theorem st_val (h : PE X e (tE X.K n G e)) (he : ∀ whole, isTrue e X.env whole = (do let v ← whole; standAt e.pos; holding [v] (truthy v))) : PT X e (tT X.K n G e) := by
  refine (pt_val h he).imp fun σ H Q ⟨s, O, g, w, sr, st, h⟩ => ?_
  refine ⟨s, O, g, w, sr, st, h.bind.mono fun rx w1 H1 O1 g1 e1 s1 hx v rv => ?_⟩
  obtain ⟨z, ez, hz⟩ := (hx.now e1 s1).of
  have := boolOf_some ez
  subst this
  cases rv
  exact ⟨z, rfl, hz _ _ _ Evo.refl s1⟩
theorem st_not (h : PT X a (tT X.K n G a)) : PT X (.UnaryOp .Not a pos) (tT X.K (n + 1) G (.UnaryOp .Not a pos)) := by
  refine (pt_not h).imp fun σ H Q ⟨s, O, g, w, sr, st, h⟩ => ?_
  have h' : Pst X.K H O g ((unW (ev n G s) .Not a w).bind fun x w => R.of (boolOf x) w) (CB Q) := h
  refine ⟨s, O, g, w, sr, st, ?_⟩
  unfold tstW
  unfold unW at h'
  cases ha : ev n G s a w with
  | ok rx w1 =>
    rw [ha] at h'
    simp only [R.bind_ok] at h' ⊢
    obtain ⟨r1, hr1, q⟩ := (h'.bind.mono (C' := fun a w _ _ _ => Nxt X.K H O g (R.of (boolOf a) w) w (CB Q)) fun _ _ _ _ _ _ _ z => z).of
    unfold unop at hr1
    split at hr1
    · rename_i h1; cases h1
    · cases hr1
      intro H' O' g' e' s'
      exact (q _ _ _ e' s').now e' s' _ _ _ Evo.refl s'
    · cases hr1
  | exc c w1 => rw [ha] at h'; exact h'
  | bad => rw [ha] at h'; exact h'
end
end TM

namespace TM
open PySem PySem.Spec PyProof.Rows L2
variable [CNm]

/-! ### tests: and, or, comparisons -/
section
variable {X : Cx} {G : Cn} {n k : Nat} {pos : Pos} {e a b c : Expr}
def tTAndL (K : PySem.W.Frag) (n : Nat) (G : Cn) (es : List Expr) : TT := fun σ H Q => ∃ s O g w, SRep g O H σ s ∧ St3 K H O g w ∧ Pst K H O g ((andW (ev n G s) es w).bind fun x w => R.of (boolOf x) w) (CB Q)
def tTOrL (K : PySem.W.Frag) (n : Nat) (G : Cn) (es : List Expr) : TT := fun σ H Q => ∃ s O g w, SRep g O H σ s ∧ St3 K H O g w ∧ Pst K H O g ((orW (ev n G s) es w).bind fun x w => R.of (boolOf x) w) (CB Q)
theorem stw_and : ∀ {es : List Expr}, (∀ e ∈ es, PT X e (tT X.K n G e)) → PW X (.BoolOp .And es pos) (tTAndL X.K n G es)
  | [], _ => ⟨fun wh pins s σ H Q I ⟨sl, O, g, w, _, _, q⟩ => (q : False).elim⟩
  | [a], ih => by
    refine (pw_and1 (ih a (by simp))).imp fun σ H Q ⟨s, O, g, w, sr, st, h⟩ => ?_
    refine ⟨s, O, g, w, sr, st, ?_⟩
    unfold andW at h
    unfold tstW
    cases ha : ev n G s a w with
    | ok rx w1 =>
      rw [ha] at h
      simp only [R.bind_ok] at h ⊢
      split at h
      · exact h
      · exact h
      · exact h.elim
    | exc c w1 => rw [ha] at h; exact h
    | bad => rw [ha] at h; exact h
  | a :: b :: r, ih => by
    have hr := stw_and (es := b :: r) fun e he => ih e (List.mem_cons_of_mem _ he)
    refine (pw_and (ih a (by simp)) hr).imp fun σ H Q ⟨s, O, g, w, sr, st, h⟩ => ?_
    refine ⟨s, O, g, w, sr, st, ?_⟩
    unfold andW at h
    unfold tstW
    cases ha : ev n G s a w with
    | ok rx w1 =>
      rw [ha] at h
      simp only [R.bind_ok] at h ⊢
      split at h
      · intro H1 O1 g1 e1 s1
        show tTAndL X.K n G (b :: r) σ H1 Q
        refine ⟨s, O1, g1, w1, sr.evo st e1, s1, ?_⟩
        exact (h.nxt (w := w1)).now e1 s1
      · intro H1 O1 g1 e1 s1
        show Q false H1
        exact h _ _ _ e1 s1
      · exact h.elim
    | exc c w1 => rw [ha] at h; exact h
    | bad => rw [ha] at h; exact h
theorem stw_or : ∀ {es : List Expr}, (∀ e ∈ es, PT X e (tT X.K n G e)) → PW X (.BoolOp .Or es pos) (tTOrL X.K n G es)
  | [], _ => ⟨fun wh pins s σ H Q I ⟨sl, O, g, w, _, _, q⟩ => (q : False).elim⟩
  | [a], ih => by
    refine (pw_or1 (ih a (by simp))).imp fun σ H Q ⟨s, O, g, w, sr, st, h⟩ => ?_
    refine ⟨s, O, g, w, sr, st, ?_⟩
    unfold orW at h
    unfold tstW
    cases ha : ev n G s a w with
    | ok rx w1 =>
      rw [ha] at h
      simp only [R.bind_ok] at h ⊢
      split at h
      · exact h
      · exact h
      · exact h.elim
    | exc c w1 => rw [ha] at h; exact h
    | bad => rw [ha] at h; exact h
  | a :: b :: r, ih => by
    have hr := stw_or (es := b :: r) fun e he => ih e (List.mem_cons_of_mem _ he)
    refine (pw_or (ih a (by simp)) hr).imp fun σ H Q ⟨s, O, g, w, sr, st, h⟩ => ?_
    refine ⟨s, O, g, w, sr, st, ?_⟩
    unfold orW at h
    unfold tstW
    cases ha : ev n G s a w with
    | ok rx w1 =>
      rw [ha] at h
      simp only [R.bind_ok] at h ⊢
      split at h
      · intro H1 O1 g1 e1 s1
        show tTOrL X.K n G (b :: r) σ H1 Q
        refine ⟨s, O1, g1, w1, sr.evo st e1, s1, ?_⟩
        exact (h.nxt (w := w1)).now e1 s1
      · intro H1 O1 g1 e1 s1
        show Q true H1
        exact h _ _ _ e1 s1
      · exact h.elim
    | exc c w1 => rw [ha] at h; exact h
    | bad => rw [ha] at h; exact h
theorem st_bool {op : PySem.BoolOp} {es : List Expr} (ih : ∀ e ∈ es, PT X e (tT X.K n G e)) : PT X (.BoolOp op es pos) (tT X.K (n + 1) G (.BoolOp op es pos)) := by
  cases op with
  | And => exact (stw_and ih).pt.imp fun σ H Q h => h
  | Or => exact (stw_or ih).pt.imp fun σ H Q h => h

theorem mark_of {n : Nat} {N : List Str} {sc : Scope} {op : CmpOp} (h : chk n N sc b = true) : behindInMarks op b = false := by
  cases n with
  | zero => simp [chk] at h
  | succ n => cases b <;> first | rfl | (simp [chk] at h)
theorem marks_of {n : Nat} {N : List Str} {sc : Scope} {op op' : CmpOp} (h : chk n N sc c = true) : lastMarks [op, op'] [b, c] = false := by
  show behindInMarks op' c = false
  exact mark_of h
theorem sv_cmp1 {op : CmpOp} (hr : Room k X.A) (hm : behindInMarks op b = false) (ha : PE X a (tE X.K n G a)) (hb : PE X b (tE X.K n G b)) : PE X (.Compare a [op] [b] pos) (tE X.K (n + 1) G (.Compare a [op] [b] pos)) := by
  refine (pe_cmpR opW ha hb hm).imp fun σ H Q ⟨s, O, g, w, sr, st, h⟩ => ?_
  have h' : Pst X.K H O g (cmpW (ev n G s) a [op] [b] w) (CV H Q) := h
  refine ⟨s, O, g, w, sr, st, h'.bind.mono fun rx w1 H1 O1 g1 e1 s1 hx v rv => ⟨s, O1, g1, w1, sr.evo st e1, s1, (hx _ _ _ e1 s1).bind.mono fun ry w2 H2 O2 g2 e2 s2 hy u ru => ?_⟩⟩
  obtain ⟨rz, ez, hz⟩ := (hy _ _ _ e2 s2).of
  simp only [Option.map_eq_some_iff] at ez
  obtain ⟨z, ez, rfl⟩ := ez
  exact cmpop_ok hr (s1.repB e2 rv.b) ru.b ez (endVal s2 (.bl _) hz)
theorem st_cmp1 {op : CmpOp} (hr : Room k X.A) (hm : behindInMarks op b = false) (ha : PE X a (tE X.K n G a)) (hb : PE X b (tE X.K n G b)) : PT X (.Compare a [op] [b] pos) (tT X.K (n + 1) G (.Compare a [op] [b] pos)) := by
  refine (pt_cmpR opW ha hb hm).imp fun σ H Q ⟨s, O, g, w, sr, st, h⟩ => ?_
  have h0 : Pst X.K H O g ((cmpW (ev n G s) a [op] [b] w).bind fun x w => R.of (boolOf x) w) (CB Q) := h
  have h' : Pst X.K H O g ((ev n G s a w).bind fun x w => (ev n G s b w).bind fun y w => R.of (cmpop op x y) w) (CB Q) := by
    refine cast ?_ h0
    congr 1
    unfold cmpW
    cases ev n G s a w with
    | ok x w1 =>
      simp only [R.bind_ok]
      cases ev n G s b w1 with
      | ok y w2 =>
        simp only [R.bind_ok]
        cases cmpop op x y <;> rfl
      | exc c w2 => rfl
      | bad => rfl
    | exc c w1 => rfl
    | bad => rfl
  refine ⟨s, O, g, w, sr, st, h'.bind.mono fun rx w1 H1 O1 g1 e1 s1 hx v rv => ⟨s, O1, g1, w1, sr.evo st e1, s1, (hx _ _ _ e1 s1).bind.mono fun ry w2 H2 O2 g2 e2 s2 hy u ru => ?_⟩⟩
  obtain ⟨z, ez, hz⟩ := (hy _ _ _ e2 s2).of
  exact cmpop_ok hr (s1.repB e2 rv.b) ru.b ez ⟨z, rfl, hz _ _ _ Evo.refl s2⟩
theorem sv_cmp2 {op op' : CmpOp} (hr : Room k X.A) (hm : lastMarks [op, op'] [b, c] = false) (ha : PE X a (tE X.K n G a)) (hb : PE X b (tE X.K n G b)) (hc : PE X c (tE X.K n G c)) : PE X (.Compare a [op, op'] [b, c] pos) (tE X.K (n + 1) G (.Compare a [op, op'] [b, c] pos)) := by
  refine (pe_chain opW opW ha hb hc hm).imp fun σ H Q ⟨s, O, g, w, sr, st, h⟩ => ?_
  have h' : Pst X.K H O g (cmpW (ev n G s) a [op, op'] [b, c] w) (CV H Q) := h
  refine ⟨s, O, g, w, sr, st, h'.bind.mono fun rx w1 H1 O1 g1 e1 s1 hx v rv => ⟨s, O1, g1, w1, sr.evo st e1, s1, (hx _ _ _ e1 s1).bind.mono fun ry w2 H2 O2 g2 e2 s2 hy u ru => ?_⟩⟩
  obtain ⟨z, ez, hz⟩ := ((hy _ _ _ e2 s2).bind).of
  have hz := (hz _ _ _ Evo.refl s2).now Evo.refl s2
  refine cmpop_ok hr (s1.repB e2 rv.b) ru.b ez ⟨z, rfl, ?_⟩
  cases z with
  | false =>
    rw [if_neg (by decide)]
    exact endVal s2 (.bl _) hz
  | true =>
    rw [if_pos rfl]
    refine ⟨s, O2, g2, w2, (sr.evo st e1).evo s1 e2, s2, hz.bind.mono fun rt w3 H3 O3 g3 e3 s3 ht t rt' => ?_⟩
    obtain ⟨rz, ez, hz⟩ := (ht _ _ _ e3 s3).of
    simp only [Option.map_eq_some_iff] at ez
    obtain ⟨z, ez, rfl⟩ := ez
    exact cmpop_ok hr (s2.repB e3 ru.b) rt'.b ez (endVal s3 (.bl _) hz)
theorem st_cmp2 {op op' : CmpOp} (hr : Room k X.A) (hm : lastMarks [op, op'] [b, c] = false) (ha : PE X a (tE X.K n G a)) (hb : PE X b (tE X.K n G b)) (hc : PE X c (tE X.K n G c)) : PT X (.Compare a [op, op'] [b, c] pos) (tT X.K (n + 1) G (.Compare a [op, op'] [b, c] pos)) := by
  refine (pt_chain opW opW ha hb hc hm).imp fun σ H Q ⟨s, O, g, w, sr, st, h⟩ => ?_
  have h0 : Pst X.K H O g ((cmpW (ev n G s) a [op, op'] [b, c] w).bind fun x w => R.of (boolOf x) w) (CB Q) := h
  have h' : Pst X.K H O g ((ev n G s a w).bind fun x w => (ev n G s b w).bind fun y w => (R.of (cmpop op x y) w).bind fun z w =>
      (match z with
      | true => (ev n G s c w).bind fun u w => R.of (cmpop op' y u) w
      | false => .ok false w)) (CB Q) := by
    refine cast ?_ h0
    congr 1
    unfold cmpW
    cases ev n G s a w with
    | ok x w1 =>
      simp only [R.bind_ok]
      cases ev n G s b w1 with
      | ok y w2 =>
        simp only [R.bind_ok]
        cases cmpop op x y with
        | none => rfl
        | some z =>
          cases z with
          | false => rfl
          | true =>
            simp only [R.of_some, R.bind_ok]
            cases ev n G s c w2 with
            | ok t w3 =>
              simp only [R.bind_ok]
              cases cmpop op' y t <;> rfl
            | exc c w3 => rfl
            | bad => rfl
      | exc c w2 => rfl
      | bad => rfl
    | exc c w1 => rfl
    | bad => rfl
  refine ⟨s, O, g, w, sr, st, h'.bind.mono fun rx w1 H1 O1 g1 e1 s1 hx v rv => ⟨s, O1, g1, w1, sr.evo st e1, s1, (hx _ _ _ e1 s1).bind.mono fun ry w2 H2 O2 g2 e2 s2 hy u ru => ?_⟩⟩
  obtain ⟨z, ez, hz⟩ := ((hy _ _ _ e2 s2).bind).of
  have hz := (hz _ _ _ Evo.refl s2).now Evo.refl s2
  refine cmpop_ok hr (s1.repB e2 rv.b) ru.b ez ⟨z, rfl, ?_⟩
  cases z with
  | false =>
    rw [if_neg (by decide)]
    exact ⟨false, rfl, hz _ _ _ Evo.refl s2⟩
  | true =>
    rw [if_pos rfl]
    refine ⟨s, O2, g2, w2, (sr.evo st e1).evo s1 e2, s2, hz.bind.mono fun rt w3 H3 O3 g3 e3 s3 ht t rt' => ?_⟩
    obtain ⟨z, ez, hz⟩ := (ht _ _ _ e3 s3).of
    exact cmpop_ok hr (s2.repB e3 ru.b) rt'.b ez ⟨z, rfl, hz _ _ _ Evo.refl s3⟩

/-! ### a value frozen -/
theorem frz_ok {K : PySem.W.Frag} {H H' : Hp} {O O' : Os} {g g' : Gh} {w : Wd} {v : V} {r : RV} {d : D} (wf : Wf H O g) (e : Evo H O g H' O' g') (s : St3 K H' O' g' w) (h : RepV g' O' H H' v r) (hf : frz r = some d) : ∃ O'', Evo H O g H' O'' g' ∧ St3 K H' O'' g' w ∧ Rep g' O'' H' v d := by
  cases r with
  | val d' => cases hf; exact ⟨O', e, s, h⟩
  | own ds =>
    cases hf
    obtain ⟨a, rfl, o, n, f, l⟩ := h
    exact ⟨remO O' a, e.rem wf f, s.rem n, l.rep⟩
  | bor ds => cases hf
theorem sv_if (ht : PT X c (tT X.K n G c)) (ha : PE X a (tE X.K n G a)) (hb : PE X b (tE X.K n G b)) : PE X (.IfExp c a b pos) (tE X.K (n + 1) G (.IfExp c a b pos)) := by
  refine (pe_ifExp ht ha hb).imp fun σ H Q ⟨s, O, g, w, sr, st, h⟩ => ?_
  have h0 : Pst X.K H O g (ifW (ev n G s) c a b w) (CV H Q) := h
  have h' : Pst X.K H O g ((tstW (ev n G s) c w).bind fun z w => match z with
      | true => (ev n G s a w).bind fun y w => R.of ((frz y).map .val) w
      | false => (ev n G s b w).bind fun y w => R.of ((frz y).map .val) w) (CV H Q) := by
    refine cast ?_ h0
    congr 1
    unfold ifW tstW
    cases ev n G s c w with
    | ok x w1 =>
      simp only [R.bind_ok]
      cases boolOf x with
      | none => rfl
      | some z => cases z <;> rfl
    | exc c w1 => rfl
    | bad => rfl
  refine ⟨s, O, g, w, sr, st, h'.bind.mono fun z w1 H1 O1 g1 e1 s1 hx => ?_⟩
  have hx := hx.now e1 s1
  have fin : ∀ (x : Expr) (h : Pst X.K H1 O1 g1 ((ev n G s x w1).bind fun y w => R.of ((frz y).map .val) w) (CV H Q)), tE X.K n G x σ H1 Q := fun x h => by
    refine ⟨s, O1, g1, w1, sr.evo st e1, s1, h.bind.mono fun ry w2 H2 O2 g2 e2 s2 hy v rv => ?_⟩
    cases hf : frz ry with
    | none => have q := hy.now e2 s2; rw [hf] at q; exact q.elim
    | some d =>
      obtain ⟨O3, e3, s3, r3⟩ := frz_ok s1.wf e2 s2 rv hf
      have q := hy.now e3 s3
      rw [hf] at q
      exact endVal s3 r3 q
  cases z with
  | true =>
    show tE X.K n G a σ H1 Q
    exact fin a hx
  | false =>
    show tE X.K n G b σ H1 Q
    exact fin b hx

/-! ### argument lists -/
def RepA (g : Gh) (O : Os) (H : Hp) (v : V) : RV → Prop
  | .val d => Rep g O H v d
  | .own ds => Rep g O H v (.list ds)
  | .bor ds => ∃ a, v = .ref a ∧ O a ∧ ¬ WA g a ∧ LAt g O H a ds
theorem St3.repA {K : PySem.W.Frag} {H H' : Hp} {O O' : Os} {g g' : Gh} {w : Wd} (s : St3 K H O g w) (e : Evo H O g H' O' g') {v : V} {r : RV} (h : RepA g O H v r) : RepA g' O' H' v r := by
  cases r with
  | val d => exact s.rep e h
  | own ds => exact s.rep e h
  | bor ds => obtain ⟨a, q, o, n, l⟩ := h; exact ⟨a, q, e.omono a o, WA.of_evo e l.al n, s.lat e n l⟩
theorem frzA {K : PySem.W.Frag} {H H' : Hp} {O O' : Os} {g g' : Gh} {w : Wd} {v : V} {r : RV} (wf : Wf H O g) (e : Evo H O g H' O' g') (s : St3 K H' O' g' w) (h : RepV g' O' H H' v r) : ∃ O'', Evo H O g H' O'' g' ∧ St3 K H' O'' g' w ∧ RepA g' O'' H' v r := by
  cases r with
  | val d' => exact ⟨O', e, s, h⟩
  | own ds =>
    obtain ⟨a, rfl, o, n, f, l⟩ := h
    exact ⟨remO O' a, e.rem wf f, s.rem n, l.rep⟩
  | bor ds => exact ⟨O', e, s, h⟩
def CA (Q : List V → Hp → Prop) : List RV → Wd → Hp → Os → Gh → Prop := fun rs _ H' O' g' => ∀ vs, Paired (RepA g' O' H') vs rs → Q vs H'
def tA (K : PySem.W.Frag) (n : Nat) (G : Cn) (es : List Expr) : TA := fun σ H Q => ∃ s O g w, SRep g O H σ s ∧ St3 K H O g w ∧ Pst K H O g (evsW (ev n G s) es w) (CA Q)
theorem star_of {n : Nat} {N : List Str} {sc : Scope} {env : Env} {es : List Expr} (h : chk n N sc e = true) : starEach (e :: es) env = (false, eval e env) :: starEach es env := by
  cases n with
  | zero => simp [chk] at h
  | succ n => cases e <;> first | rfl | (simp [chk] at h)
theorem stars_of {n : Nat} {N : List Str} {sc : Scope} {env : Env} : ∀ {es : List Expr}, (∀ e ∈ es, chk n N sc e = true) → starEach es env = es.map fun e => (false, eval e env)
  | [], _ => rfl
  | e :: es, h => by rw [star_of (h e (by simp)), stars_of fun e he => h e (List.mem_cons_of_mem _ he)]; rfl
theorem plain_of {n : Nat} {N : List Str} {sc : Scope} {env : Env} {pos : Pos} {es : List Expr} (h : ∀ e ∈ es, chk n N sc e = true) : (backTo pos (starEach es env)).any (·.1) = false := by
  rw [stars_of h]
  unfold backTo
  induction es with
  | nil => rfl
  | cons e es ih => simpa using ih fun e he => h e (List.mem_cons_of_mem _ he)
theorem sv_args {N : List Str} {sc : Scope} {m : Nat} : ∀ {es : List Expr}, (∀ e ∈ es, chk m N sc e = true) → (∀ e ∈ es, PE X e (tE X.K n G e)) → PA X es (tA X.K n G es)
  | [], _, _ => pa_nil.imp fun σ H Q ⟨s, O, g, w, sr, st, h⟩ => h _ _ _ Evo.refl st [] .nil
  | e :: es, hs, ih => by
    refine (pa_cons (ih e (by simp)) (sv_args (fun e he => hs e (List.mem_cons_of_mem _ he)) fun e he => ih e (List.mem_cons_of_mem _ he)) (star_of (hs e (by simp)))).imp fun σ H Q ⟨s, O, g, w, sr, st, h⟩ => ?_
    have h' : Pst X.K H O g ((ev n G s e w).bind fun v w => (evsW (ev n G s) es w).bind fun vs w => .ok (v :: vs) w) (CA Q) := h
    refine ⟨s, O, g, w, sr, st, h'.bind.mono fun rx w1 H1 O1 g1 e1 s1 hx v rv => ?_⟩
    obtain ⟨O2, e2, s2, ra⟩ := frzA st.wf e1 s1 rv
    refine ⟨s, O2, g1, w1, sr.evo st e2, s2, (hx.now e2 s2).bind.mono fun rs w3 H3 O3 g3 e3 s3 hy us ru => ?_⟩
    exact (hy.now e3 s3) _ _ _ Evo.refl s3 (v :: us) (.cons (s2.repA e3 ra) ru)
theorem RepA.rb {g : Gh} {O : Os} {H : Hp} {v : V} {r : RV} (w : Wf H O g) (h : RepA g O H v r) : RepB g O H v r := by
  cases r with
  | val d => exact h
  | own ds =>
    have h' : Rep g O H v (.list ds) := h
    cases h' with
    | lst h1 n r1 => exact ⟨_, rfl, fun z => n (w.wao _ z), _, h1, r1⟩
  | bor ds => obtain ⟨a, e, _, n, l⟩ := h; exact ⟨a, e, n, l⟩
theorem repAs_b {g : Gh} {O : Os} {H : Hp} {vs : List V} {rs : List RV} (w : Wf H O g) (h : Paired (RepA g O H) vs rs) : RepBs g O H vs rs := TM.Paired.imp (fun _ _ h => RepA.rb w h) h
theorem repAs_dat {g : Gh} {O : Os} {H : Hp} : ∀ {vs : List V} {rs : List RV} {ds : List D}, Paired (RepA g O H) vs rs → datS rs = some ds → Reps g O H vs ds
  | _, _, ds, .nil, e => by
    have e' : ([] : List D) = ds := Option.some.inj e
    subst e'; exact .nil
  | _, _, ds, .cons (b := r) h t, e => by
    cases r with
    | val d =>
      simp only [datS, Option.map_eq_some_iff] at e
      obtain ⟨es, e1, rfl⟩ := e
      exact .cons h (repAs_dat t e1)
    | own xs =>
      simp only [datS, Option.map_eq_some_iff] at e
      obtain ⟨es, e1, rfl⟩ := e
      exact .cons h (repAs_dat t e1)
    | bor xs => cases e
theorem sv_tup {N : List Str} {sc : Scope} {m : Nat} {es : List Expr} {x1 : Nat} (hs : ∀ e ∈ es, chk m N sc e = true) (ih : ∀ e ∈ es, PE X e (tE X.K n G e)) : PE X (.Tuple es x1 pos) (tE X.K (n + 1) G (.Tuple es x1 pos)) := by
  refine (pe_tup (sv_args hs ih)).imp fun σ H Q ⟨s, O, g, w, sr, st, h⟩ => ?_
  have h' : Pst X.K H O g (tupW (ev n G s) es w) (CV H Q) := h
  refine ⟨s, O, g, w, sr, st, h'.bind.mono fun rs w1 H1 O1 g1 e1 s1 hx vs rv => ?_⟩
  have hx := hx.now e1 s1
  split at hx
  · rename_i ds ed
    have r := repAs_dat rv ed
    split at hx
    · rename_i hl
      refine ⟨by rw [r.length]; exact Nat.le_trans hl cap_line, fun p hp => ?_⟩
      exact endTup s1 r hx hp
    · exact hx.elim
  · exact hx.elim
theorem sv_lst {N : List Str} {sc : Scope} {m : Nat} {es : List Expr} (hs : ∀ e ∈ es, chk m N sc e = true) (ih : ∀ e ∈ es, PE X e (tE X.K n G e)) : PE X (.List es pos) (tE X.K (n + 1) G (.List es pos)) := by
  refine (pe_lst (sv_args hs ih)).imp fun σ H Q ⟨s, O, g, w, sr, st, h⟩ => ?_
  have h' : Pst X.K H O g (lstW (ev n G s) es w) (CV H Q) := h
  refine ⟨s, O, g, w, sr, st, h'.bind.mono fun rs w1 H1 O1 g1 e1 s1 hx vs rv => ?_⟩
  have hx := hx.now e1 s1
  split at hx
  · rename_i ds ed
    have r := repAs_dat rv ed
    split at hx
    · rename_i hl
      refine ⟨by rw [r.length]; exact Nat.le_trans hl cap_line, fun p hp => ?_⟩
      exact endOwn s1 (fun p hp => e1.back hp) r hx hp
    · exact hx.elim
  · exact hx.elim

/-! ### subscripts -/
/-- a[b], a no dict -/
def tSW (K : PySem.W.Frag) (n : Nat) (G : Cn) (a b : Expr) : TE := fun σ H Q => ∃ s O g w, SRep g O H σ s ∧ St3 K H O g w ∧ Pst K H O g (subW (ev n G s) a b w) (CV H Q)
def CO (Q : Option Int → Hp → Prop) : Option Int → Wd → Hp → Os → Gh → Prop := fun o _ H' _ _ => Q o H'
def tO (K : PySem.W.Frag) (n : Nat) (G : Cn) (e : Option Expr) : TO := fun σ H Q => ∃ s O g w, SRep g O H σ s ∧ St3 K H O g w ∧ Pst K H O g (optW (ev n G s) e w) (CO Q)
theorem sv_opt {o : Option Expr} (ih : ∀ e, o = some e → PE X e (tE X.K n G e)) : PO X o (tO X.K n G o) := by
  cases o with
  | none => exact po_none.imp fun σ H Q ⟨s, O, g, w, sr, st, h⟩ => h _ _ _ Evo.refl st
  | some e =>
    refine (po_some (ih e rfl)).imp fun σ H Q ⟨s, O, g, w, sr, st, h⟩ => ?_
    have h' : Pst X.K H O g ((ev n G s e w).bind fun v w => match v with
      | .val (.int i) => .ok (some i) w
      | _ => .bad) (CO Q) := h
    refine ⟨s, O, g, w, sr, st, h'.bind.mono fun rx w1 H1 O1 g1 e1 s1 hx v rv => ?_⟩
    have hx := hx.now e1 s1
    split at hx
    · cases rv
      exact ⟨_, rfl, hx _ _ _ Evo.refl s1⟩
    · exact hx.elim
theorem sv_slice {lo hi : Option Expr} {p2 : Pos} (ha : PE X a (tE X.K n G a)) (hl : PO X lo (tO X.K n G lo)) (hh : PO X hi (tO X.K n G hi)) : PE X (.Subscript a (.Slice lo hi none p2) pos) (tSW X.K n G a (.Slice lo hi none p2)) := by
  refine (pe_slice slW ha hl hh).imp fun σ H Q ⟨s, O, g, w, sr, st, h⟩ => ?_
  have h' : Pst X.K H O g (subW (ev n G s) a (.Slice lo hi none p2) w) (CV H Q) := h
  refine ⟨s, O, g, w, sr, st, h'.bind.mono fun rx w1 H1 O1 g1 e1 s1 hx v rv => ⟨s, O1, g1, w1, sr.evo st e1, s1, (hx.now e1 s1).bind.mono fun l w2 H2 O2 g2 e2 s2 hy =>
    ⟨s, O2, g2, w2, (sr.evo st e1).evo s1 e2, s2, (hy.now e2 s2).bind.mono fun u w3 H3 O3 g3 e3 s3 hz => ?_⟩⟩⟩
  obtain ⟨rz, ez, hz⟩ := (hz.now e3 s3).of
  exact slop_ok s3 (fun p hp => e1.back (e2.back (e3.back hp))) (s2.repB e3 (s1.repB e2 rv.b)) ez hz
theorem sv_rev {k1 : Nat} {p1 p2 p3 : Pos} (ha : PE X a (tE X.K n G a)) : PE X (.Subscript a (.Slice none none (some (.UnaryOp .USub (.Constant (.int 1) k1 p1) p2)) p3) pos) (tSW X.K n G a (.Slice none none (some (.UnaryOp .USub (.Constant (.int 1) k1 p1) p2)) p3)) := by
  refine (pe_revL ha).imp fun σ H Q ⟨s, O, g, w, sr, st, h⟩ => ?_
  have h' : Pst X.K H O g ((ev n G s a w).bind fun x w => R.of (x.lst?.map fun ds => .own ds.reverse) w) (CV H Q) := h
  refine ⟨s, O, g, w, sr, st, h'.bind.mono fun rx w1 H1 O1 g1 e1 s1 hx v rv => ?_⟩
  obtain ⟨rz, ez, hz⟩ := (hx.now e1 s1).of
  simp only [Option.map_eq_some_iff] at ez
  obtain ⟨ds, ed, rfl⟩ := ez
  obtain ⟨b, rfl, vs, hb, rb⟩ := rv.b.lst ed
  exact ⟨b, vs, rfl, SqL.of hb, fun p hp => endOwn s1 (fun p hp => e1.back hp) rb.reverse hz hp⟩
theorem sv_ix (hns : ∀ l h s p, b ≠ .Slice l h s p) (ha : PE X a (tE X.K n G a)) (hb : PE X b (tE X.K n G b)) : PE X (.Subscript a b pos) (tSW X.K n G a b) := by
  have hp : PlainIx b := fun o i => by
    unfold subscripted
    cases b <;> first | rfl | exact absurd rfl (hns _ _ _ _)
  refine (pe_ix ixW ha hb hp).imp fun σ H Q ⟨s, O, g, w, sr, st, h⟩ => ?_
  have h' : Pst X.K H O g ((ev n G s a w).bind fun x w => (ev n G s b w).bind fun y w => R.of (ixop x y) w) (CV H Q) := by
    have h1 : Pst X.K H O g (subW (ev n G s) a b w) (CV H Q) := h
    cases b <;> first | exact h1 | exact absurd rfl (hns _ _ _ _)
  refine ⟨s, O, g, w, sr, st, h'.bind.mono fun rx w1 H1 O1 g1 e1 s1 hx v rv => ⟨s, O1, g1, w1, sr.evo st e1, s1, (hx.now e1 s1).bind.mono fun ry w2 H2 O2 g2 e2 s2 hy u ru => ?_⟩⟩
  obtain ⟨rz, ez, hz⟩ := (hy.now e2 s2).of
  exact ixop_ok s2 (s1.repB e2 rv.b) ru.b ez hz
end
end TM

namespace TM
open PySem PySem.Spec PyProof.Rows L2
variable [CNm]

theorem lookup_mem {α : Type} : ∀ {l : List (Str × α)} {x : Str} {b : α}, l.lookup x = some b → (x, b) ∈ l
  | [], _, _, h => by simp at h
  | (y, c) :: r, x, b, h => by
    by_cases e : x = y
    · subst e
      simp at h
      subst h
      exact List.mem_cons_self
    · have e' : (x == y) = false := beq_eq_false_iff_ne.mpr e
      rw [List.lookup_cons, e'] at h
      exact List.mem_cons_of_mem _ (lookup_mem h)

/-! ### calls of the program's own defs -/
mutual
theorem Rep.noL {g : Gh} {O O' : Os} {H : Hp} : ∀ {m : Nat} {v : V} {d : D}, Rep g O H v d → TM.noL m d = true → Rep g O' H v d
  | _, _, _, .non, _ => .non
  | _, _, _, .bl b, _ => .bl b
  | _, _, _, .int i, _ => .int i
  | _, _, _, .str x, _ => .str x
  | 0, _, _, .lst h n r, c => by simp [TM.noL] at c
  | m + 1, _, _, .lst h n r, c => by simp [TM.noL] at c
  | 0, _, _, .tup h r, c => by simp [TM.noL] at c
  | m + 1, _, _, .tup h r, c => .tup h (Reps.noL r (by rw [← c]; rfl))
  | 0, _, _, .spc h, c => by simp [TM.noL] at c
  | m + 1, _, _, .spc h, c => by simp [TM.noL] at c
  | 0, _, _, .exc h n, c => by simp [TM.noL] at c
  | m + 1, _, _, .exc h n, c => by simp [TM.noL] at c
theorem Reps.noL {g : Gh} {O O' : Os} {H : Hp} : ∀ {m : Nat} {vs : List V} {ds : List D}, Reps g O H vs ds → ds.all (TM.noL m) = true → Reps g O' H vs ds
  | _, _, _, .nil, _ => .nil
  | _, _, _, .cons a b, c => by
    simp only [List.all_cons, Bool.and_eq_true] at c
    exact .cons (Rep.noL a c.1) (Reps.noL b c.2)
end
/-- the looked-at lists among the arguments are lent -/
theorem lend {g : Gh} {O : Os} {H : Hp} : ∀ {vs : List V} {rs : List RV}, Paired (RepA g O H) vs rs → ∃ B : List Addr, (∀ a ∈ B, O a ∧ ¬ WA g a) ∧ Reps g (fun b => O b ∧ b ∉ B) H vs (rs.map RV.dat) ∧ (rs.any RV.isBor = false → B = [])
  | _, _, .nil => ⟨[], fun _ h => (nomatch h), .nil, fun _ => rfl⟩
  | _, _, .cons (a := v) (b := r) h t => by
    obtain ⟨B, h1, h2, h3⟩ := lend t
    cases r with
    | val d => exact ⟨B, h1, .cons (Rep.anti (fun _ z => z.1) h) h2, fun z => h3 (by simpa using z)⟩
    | own ds => exact ⟨B, h1, .cons (Rep.anti (fun _ z => z.1) h) h2, fun z => h3 (by simpa using z)⟩
    | bor ds =>
      obtain ⟨a, rfl, o, n, us, l1, l2⟩ := h
      refine ⟨a :: B, fun b hb => ?_, .cons (.lst l1 (fun z => z.2 List.mem_cons_self) (l2.anti fun _ z => z.1)) (h2.anti fun b z => ⟨z.1, fun q => z.2 (List.mem_cons_of_mem _ q)⟩), fun z => by simp at z⟩
      rcases List.mem_cons.mp hb with rfl | hb
      · exact ⟨o, n⟩
      · exact h1 b hb
section
variable {X : Cx} {G : Cn} {n k : Nat} {pos p : Pos} {e a b c : Expr}
/-- a call, by the def's promise -/
theorem call_spX {H0 H : Hp} {O : Os} {g : Gh} {w : Wd} {Q : VK} {f : Str} {vs : List V} {rs : List RV} {K : PySem.W.Frag} {T : Tab} {E : XK} {W : Str → Hp → Prop} (hE : ∀ c H', W c H' → E (.ref (CNm.nm c)) none H') (st : St3 K H O g w) (hb : ∀ p, H p = none → H0 p = none) (ra : Paired (RepA g O H) vs rs) (h : PstX K H O g (callT T f rs w) (CV H0 Q) W) : spT K (T f) vs H Q E := by
  obtain ⟨B, b1, b2, b3⟩ := lend ra
  have st' : St3 K H (fun b => O b ∧ b ∉ B) g w := ⟨⟨fun a z => ⟨st.wf.wao a z, fun q => (b1 a q).2 z⟩, fun a z => st.wf.oal a z.1, fun a z => st.wf.ot a z.1⟩, st.wr⟩
  refine ⟨_, g, w, rs.map RV.dat, st', b2, ?_⟩
  have al : ∀ b ∈ B, H b ≠ none := fun b hb => st.wf.oal b (b1 b hb).1
  have up : ∀ {H' : Hp} {O' : Os} {g' : Gh} {w2 : Wd}, Evo H (fun b => O b ∧ b ∉ B) g H' O' g' → St3 K H' O' g' w2 → Evo H O g H' (fun b => O' b ∨ b ∈ B) g' ∧ St3 K H' (fun b => O' b ∨ b ∈ B) g' w2 := fun {H' O' g' w2} e s => by
    refine ⟨⟨e.keep, e.still, fun b z => by
          by_cases q : b ∈ B
          · exact .inr q
          · exact .inl (e.omono b ⟨z, q⟩), fun b z => z.elim (fun z => (e.onew b z).elim (fun z => .inl z.1) .inr) fun z => .inl (b1 b z).1, e.gpre, e.gnew⟩, ?_⟩
    exact ⟨⟨fun a z => .inl (s.wf.wao a z), fun a z => z.elim (s.wf.oal a) fun z => e.still a (al a z), fun a z vs => z.elim (fun z => s.wf.ot a z vs) fun z q => by
          cases hq : H a with
          | none => exact al a z hq
          | some o =>
            have k := e.keep a o hq (b1 a z).2
            rw [q] at k
            cases k
            exact st.wf.ot a (b1 a z).1 vs hq⟩, s.wr⟩
  unfold callT at h
  cases ht : T f (rs.map RV.dat) w with
  | ok r w2 =>
    rw [ht] at h
    simp only [R.bind_ok] at h
    by_cases hc : (rs.any RV.isBor && !noLRV r) = true
    · rw [if_pos hc] at h
      exact (h : False).elim
    · rw [if_neg hc] at h
      have hc' : B = [] ∨ noLRV r = true := by
        cases hq : rs.any RV.isBor with
        | false => exact .inl (b3 hq)
        | true =>
          right
          rw [hq] at hc
          simpa using hc
      intro H' O' g' e s v rv
      obtain ⟨e2, s2⟩ := up e s
      refine h _ _ _ e2 s2 v ?_
      have rep : ∀ {v : V} {d : D} {m : Nat}, Rep g' O' H' v d → (B = [] ∨ noL m d = true) → Rep g' (fun b => O' b ∨ b ∈ B) H' v d := fun {v d m} r z => by
        rcases z with z | z
        · subst z
          exact r.anti fun b z => z.elim id fun q => nomatch q
        · exact r.noL z
      have reps : ∀ {v : List V} {d : List D} {m : Nat}, Reps g' O' H' v d → (B = [] ∨ d.all (noL m) = true) → Reps g' (fun b => O' b ∨ b ∈ B) H' v d := fun {v d m} r z => by
        rcases z with z | z
        · subst z
          exact r.anti fun b z => z.elim id fun q => nomatch q
        · exact r.noL z
      cases r with
      | val d => exact rep (m := 8) rv hc'
      | own ds =>
        obtain ⟨a, q, o, n, f, us, l1, l2⟩ := rv
        exact ⟨a, q, .inl o, n, hb a f, us, l1, reps (m := 8) l2 hc'⟩
      | bor ds =>
        rcases hc' with z | z
        · obtain ⟨a, q, o, n, us, l1, l2⟩ := rv
          exact ⟨a, q, .inl o, n, us, l1, reps (m := 8) l2 (.inl z)⟩
        · cases z
  | exc c w2 =>
    rw [ht] at h
    intro H' O' g' e s
    obtain ⟨e2, s2⟩ := up e s
    exact hE _ _ (h _ _ _ e2 s2)
  | bad => rw [ht] at h; exact h
theorem call_sp {H0 H : Hp} {O : Os} {g : Gh} {w : Wd} {Q : VK} {f : Str} {vs : List V} {rs : List RV} {K : PySem.W.Frag} {T : Tab} {E : XK} (st : St3 K H O g w) (hb : ∀ p, H p = none → H0 p = none) (ra : Paired (RepA g O H) vs rs) (h : Pst K H O g (callT T f rs w) (CV H0 Q)) : spT K (T f) vs H Q E :=
  call_spX (W := fun _ _ => False) (fun _ _ z => z.elim) st hb ra h.x
theorem sv_call {N : List Str} {sc : Scope} {m : Nat} {x : Str} {args : List Expr} (gd : Good X G k) (hx : glB X.env.scope x = true) (hd : G.dfn x = true) (hs : ∀ e ∈ args, chk m N sc e = true) (ih : ∀ e ∈ args, PE X e (tE X.K n G e)) :
    PE X (.Call (.Name x p) args [] pos) (tE X.K (n + 1) G (.Call (.Name x p) args [] pos)) := by
  obtain ⟨hg, hdb⟩ := gl_of hx
  obtain ⟨fa, fd, ps, hm, hk, hb, F⟩ := gd.dfn x hd
  have pst : ∀ (s : Sl) (w : Wd), ev (n + 1) G s (.Call (.Name x p) args [] pos) w = (evsW (ev n G s) args w).bind fun vs w => callT G.T x vs w := fun s w => by
    show callW G (ev n G s) (.Name x p) args [] w = _
    unfold callW
    dsimp only
    rw [if_pos hd]
  cases args with
  | nil =>
    refine (pe_call0 (E := E0) F gd.room hg hm hk hb .nil passL hdb).imp fun σ H Q ⟨s, O, g, w, sr, st, h⟩ => ?_
    rw [pst] at h
    exact call_sp (rs := []) (E := E0) st (fun p hp => hp) .nil h
  | cons a as =>
    refine (pe_call (E := E0) F gd.room hg hm hk hb .nil passL (sv_args hs ih) hdb (star_of (hs a (by simp))) (plain_of fun e he => hs e (List.mem_cons_of_mem _ he))).imp fun σ H Q ⟨s, O, g, w, sr, st, h⟩ => ?_
    rw [pst] at h
    refine ⟨s, O, g, w, sr, st, h.bind.mono fun rs w1 H1 O1 g1 e1 s1 hx vs ra => ?_⟩
    show spT X.K (G.T x) (vs ++ []) H1 Q E0
    rw [List.append_nil]
    exact call_sp s1 (fun p hp => e1.back hp) ra (hx.now e1 s1)

/-! ### the builtins -/
theorem blt_name {x : Str} {b : Blt} (h : bltTab.lookup x = some b) : (x, b) ∈ bltTab := lookup_mem h
theorem sv_blt {N : List Str} {sc : Scope} {m : Nat} {x : Str} {bl : Blt} {as : List Expr} (gd : Good X G k) (hx : glB X.env.scope x = true) (hd : G.dfn x = false) (hl : bltTab.lookup x = some bl) (h1 : bl ≠ .range) (h2 : bl ≠ .isinst)
    (hs : ∀ e ∈ a :: as, chk m N sc e = true) (ih : ∀ e ∈ a :: as, PE X e (tE X.K n G e)) :
    PE X (.Call (.Name x p) (a :: as) [] pos) (fun σ H Q => ∃ s O g w, SRep g O H σ s ∧ St3 X.K H O g w ∧ Pst X.K H O g ((evsW (ev n G s) (a :: as) w).bind fun vs w => R.of (bltop bl vs) w) (CV H Q)) := by
  obtain ⟨hg, hdb⟩ := gl_of hx
  have hm := gd.blt x bl hd hl
  have fin : ∀ {t : TE}, PE X (.Call (.Name x p) (a :: as) [] pos) (tCB (cW X (bltVal bl)) (tA X.K n G (a :: as))) → PE X (.Call (.Name x p) (a :: as) [] pos) (fun σ H Q => ∃ s O g w, SRep g O H σ s ∧ St3 X.K H O g w ∧ Pst X.K H O g ((evsW (ev n G s) (a :: as) w).bind fun vs w => R.of (bltop bl vs) w) (CV H Q)) := fun {t} pe => by
    refine pe.imp fun σ H Q ⟨s, O, g, w, sr, st, h⟩ => ?_
    refine ⟨s, O, g, w, sr, st, h.bind.mono fun rs w1 H1 O1 g1 e1 s1 hx vs ra => ?_⟩
    obtain ⟨rz, ez, hz⟩ := (hx.now e1 s1).of
    exact bltop_ok gd.calm s1 (fun p hp => e1.back hp) (repAs_b s1.wf ra) ez hz
  have A := sv_args hs ih
  have st1 := star_of (env := X.env) (es := as) (hs a (by simp))
  have pl1 := plain_of (env := X.env) (pos := pos) (es := as) fun e he => hs e (List.mem_cons_of_mem _ he)
  have mem := blt_name hl
  simp only [bltTab, List.mem_cons, Prod.mk.injEq, List.not_mem_nil, or_false] at mem
  refine fin (t := tC .non) ?_
  rcases mem with ⟨rfl, rfl⟩ | ⟨rfl, rfl⟩ | ⟨rfl, rfl⟩ | ⟨rfl, rfl⟩ | ⟨rfl, rfl⟩ | ⟨rfl, rfl⟩ | ⟨rfl, rfl⟩ | ⟨rfl, rfl⟩ | ⟨rfl, rfl⟩ | ⟨rfl, rfl⟩ | ⟨rfl, rfl⟩ | ⟨rfl, rfl⟩ | ⟨rfl, rfl⟩ | ⟨rfl, rfl⟩
  · exact pe_callB calW hg hm PySem.boot_len A (by decide +kernel) hdb st1 pl1
  · exact pe_callB calW hg hm (by decide +kernel) A (by decide +kernel) hdb st1 pl1
  · exact pe_callB calW hg hm (by decide +kernel) A (by decide +kernel) hdb st1 pl1
  · exact pe_callB calW hg hm (by decide +kernel) A (by decide +kernel) hdb st1 pl1
  · exact pe_callB calW hg hm (by decide +kernel) A (by decide +kernel) hdb st1 pl1
  · exact pe_callB calW hg hm (by decide +kernel) A (by decide +kernel) hdb st1 pl1
  · exact pe_callTy calW hg hm (by decide +kernel) A (by decide +kernel) hdb st1 pl1
  · exact pe_callTy calW hg hm (by decide +kernel) A (by decide +kernel) hdb st1 pl1
  · exact pe_callTy calW hg hm (by decide +kernel) A (by decide +kernel) hdb st1 pl1
  · exact pe_callTy calW hg hm (by decide +kernel) A (by decide +kernel) hdb st1 pl1
  · exact pe_callB calW hg hm (by decide +kernel) A (by decide +kernel) hdb st1 pl1
  · exact pe_callB calW hg hm (by decide +kernel) A (by decide +kernel) hdb st1 pl1
  · exact absurd rfl h1
  · exact absurd rfl h2

/-! ### isinstance -/
theorem tyStr_ok {K : PySem.W.Frag} {g : Gh} {O : Os} {H : Hp} {v : V} {r : RV} {s : String} (h : RepB g O H v r) (e : tyStr r = some s) : TyX K H v (.type s) := by
  cases r with
  | val d =>
    cases d with
    | none => cases e; cases h; exact .base .non
    | bool b => cases e; cases h; exact .base (.bl b)
    | int i => cases e; cases h; exact .base (.int i)
    | str x => cases e; cases h; exact .base (.str x)
    | list ds =>
      cases e
      have h' : Rep g O H v (.list ds) := h
      cases h' with
      | lst h1 n r => exact .base (.lst h1)
    | tuple ds =>
      cases e
      have h' : Rep g O H v (.tuple ds) := h
      cases h' with
      | tup h1 r => exact .base (.tup h1)
    | dict kv => cases e
  | own ds =>
    cases e
    obtain ⟨a, rfl, _, vs, h1, _⟩ := h
    exact .base (.lst h1)
  | bor ds =>
    cases e
    obtain ⟨a, rfl, _, vs, h1, _⟩ := h
    exact .base (.lst h1)
theorem tyStr_mem {r : RV} {s : String} (e : tyStr r = some s) : s ∈ (["int", "bool", "NoneType", "str", "tuple", "list"] : List String) := by
  unfold tyStr at e
  split at e <;> cases e <;> simp
theorem sv_isi {N : List Str} {sc : Scope} {m : Nat} {x t : Str} {pt : Pos} (gd : Good X G k) (hx : glB X.env.scope x = true) (hd : G.dfn x = false) (hl : bltTab.lookup x = some .isinst) (ht : glB X.env.scope t = true)
    (hs : ∀ e ∈ [a, .Name t pt], chk m N sc e = true) (ih : PE X a (tE X.K n G a)) :
    PE X (.Call (.Name x p) [a, .Name t pt] [] pos) (fun σ H Q => ∃ s O g w, SRep g O H σ s ∧ St3 X.K H O g w ∧ Pst X.K H O g ((ev n G s a w).bind fun x w => R.of ((isTy x t).map fun z => .val (.bool z)) w) (CV H Q)) := by
  obtain ⟨hg, hdb⟩ := gl_of hx
  obtain ⟨hgt, hdt⟩ := gl_of ht
  have hm := gd.blt x _ hd hl
  have mem := blt_name hl
  simp only [bltTab, List.mem_cons, Prod.mk.injEq, List.not_mem_nil, or_false, reduceCtorEq, and_false, false_or, and_true] at mem
  subst mem
  cases hT : tyTab.lookup t with
  | none =>
    refine ⟨fun pins s σ H Q I ⟨sl, O, g, w, _, st, q⟩ => ?_⟩
    exfalso
    cases hv : ev n G sl a w with
    | ok rx w1 =>
      rw [hv] at q
      simp only [R.bind_ok] at q
      have : isTy rx t = none := by
        unfold isTy
        rw [hT]
        split <;> rfl
      rw [this] at q
      exact q
    | exc c w1 => rw [hv] at q; exact q
    | bad => rw [hv] at q; exact q
  | some T =>
    have fin : ∀ (hmt : X.mg t = none) (hv : bootBuiltins t = some (.type T)) (hn : t ≠ "__name__") (hk : ∀ s ∈ (["int", "bool", "NoneType", "str", "tuple", "list"] : List String), kitB s T = some (s == T || (s == "bool" && T == "int"))),
        PE X (.Call (.Name "isinstance" p) [a, .Name t pt] [] pos) (fun σ H Q => ∃ s O g w, SRep g O H σ s ∧ St3 X.K H O g w ∧ Pst X.K H O g ((ev n G s a w).bind fun x w => R.of ((isTy x t).map fun z => .val (.bool z)) w) (CV H Q)) := fun hmt hv hn hk => by
      have A : PA X [a, .Name t pt] (tCons (tE X.K n G a) (tCons (tC (.ty T)) tNil)) := pa_cons ih (pa_cons (pe_bltn hgt hmt hv rfl hn hdt) pa_nil) (star_of (hs a (by simp)))
      refine (pe_callB call_isi hg hm PyProof.Rows.boot_isinstance A (by decide +kernel) hdb (star_of (hs a (by simp))) rfl).imp fun σ H Q ⟨s, O, g, w, sr, st, h⟩ => ?_
      refine ⟨s, O, g, w, sr, st, h.bind.mono fun rx w1 H1 O1 g1 e1 s1 hx v rv => ?_⟩
      obtain ⟨rz, ez, hz⟩ := (hx.now e1 s1).of
      simp only [Option.map_eq_some_iff] at ez
      obtain ⟨z, ez, rfl⟩ := ez
      unfold isTy at ez
      split at ez
      · cases ez
      · rename_i sy es
        rw [hT] at ez
        cases ez
        exact ⟨v, .ty T, .type sy, .type T, _, rfl, .ty T, tyStr_ok rv.b es, kit_ty (hk sy (tyStr_mem es)), endVal s1 (.bl _) hz⟩
    have mt := lookup_mem hT
    simp only [tyTab, List.mem_cons, Prod.mk.injEq, List.not_mem_nil, or_false] at mt
    rcases mt with ⟨rfl, rfl⟩ | ⟨rfl, rfl⟩ | ⟨rfl, rfl⟩ | ⟨rfl, rfl⟩ | ⟨rfl, rfl⟩
    all_goals exact fin (gd.ty _ (by simp [tyNames])) (by decide +kernel) (by decide +kernel) (by decide +kernel)
end
end TM

namespace TM
open PySem PySem.Spec PyProof.Rows L2
variable [CNm]
/-! ### isinstance of a caught exception -/
def rIsT (K : PySem.W.Frag) : List V → Hp → VK → Prop := fun xs H Q => ∃ (a C : Addr) (c : V) (cv : Value) (b : Bool), xs = [.ref a, c] ∧ H a = some (ExZ C a) ∧ ExcC K C ∧ (∀ u, RelV c u → u = cv) ∧ PySem.W.kitOne K (.ref C) cv = some b ∧ Q (.bl b) H
theorem call_isT {X : Cx} : CallR X (.builtin "isinstance") (rIsT X.K) := by
  intro pn sh σ H vs us Q I rs h
  obtain ⟨a, C, c, cv, b, rfl, ha, ec, hcv, hk, hq⟩ := h
  match us, rs with
  | [u1, u2], .cons r1 (.cons r2 .nil) =>
    have e1 : u1 = .ref a := r1
    have e2 : u2 = cv := hcv _ r2
    subst e1 e2
    obtain ⟨⟨ob, vs', hget, ⟨z1, z2⟩, hv⟩, _, _⟩ := I.hok a _ ha
    have J : PySem.W.InstAt sh.heap a ob C none := by
      obtain ⟨x1, x2, x3, x4⟩ := ob
      dsimp only at z1 z2 hv
      subst z1 z2 hv
      exact ⟨hget, rfl, rfl, trivial⟩
    have kit := PySem.W.handS_kitx_exc (x := a) (ox := ob) ec.hg ec.hk ec.hs ec.hd ec.ha ec.hn ec.ht ec.hm
    exact PySem.W.kia_one kit I.kIn J hk (fun z => nomatch z) fun tk => ⟨.bl b, H, I.kept (t' := tk) (fun _ _ z => z), rfl, hq⟩
section
variable {X : Cx} {G : Cn} {n k : Nat} {pos p : Pos} {e a b c : Expr}
theorem xnm_some {rx : RV} {c : Str} (h : xnm rx = some c) : rx = .val (.dict [(.none, .str c)]) := by
  unfold xnm at h
  split at h
  · cases h; rfl
  · cases h
theorem sv_isx {N : List Str} {sc : Scope} {m : Nat} {x t : Str} {pt : Pos} (gd : Good X G k) (hx : glB X.env.scope x = true) (hd : G.dfn x = false) (hl : bltTab.lookup x = some .isinst) (ht : glB X.env.scope t = true)
    (hs : ∀ e ∈ [a, .Name t pt], chk m N sc e = true) (ih : PE X a (tE X.K n G a)) :
    PE X (.Call (.Name x p) [a, .Name t pt] [] pos) (fun σ H Q => ∃ s O g w, SRep g O H σ s ∧ St3 X.K H O g w ∧ Pst X.K H O g ((ev n G s a w).bind fun x w => R.of ((isTyX G.xs x t).map fun z => .val (.bool z)) w) (CV H Q)) := by
  refine ⟨fun pins sh σ H Q I ⟨s, O, g, w, sr, st, h⟩ => ?_⟩
  have old := sv_isi (p := p) (pos := pos) gd hx hd hl ht hs ih
  cases hv : ev n G s a w with
  | exc c w1 => rw [hv] at h; exact (h : False).elim
  | bad => rw [hv] at h; exact (h : False).elim
  | ok rx w1 =>
    cases hc : xnm rx with
    | none =>
      refine old.run pins sh σ H Q I ⟨s, O, g, w, sr, st, ?_⟩
      rw [hv] at h ⊢
      simp only [R.bind_ok] at h ⊢
      unfold isTyX at h
      rw [hc] at h
      exact h
    | some c =>
      have ex := xnm_some hc
      subst ex
      rw [hv] at h
      simp only [R.bind_ok] at h
      unfold isTyX at h
      rw [hc] at h
      dsimp only at h
      cases hxs : G.xs c with
      | none => rw [hxs] at h; exact (h : False).elim
      | some l =>
        rw [hxs] at h
        dsimp only at h
        have ok := gd.xcl c l hxs
        obtain ⟨hg, hdb⟩ := gl_of hx
        obtain ⟨hgt, hdt⟩ := gl_of ht
        have hm := gd.blt x _ hd hl
        have mem := blt_name hl
        simp only [bltTab, List.mem_cons, Prod.mk.injEq, List.not_mem_nil, or_false, reduceCtorEq, and_false, false_or, and_true] at mem
        subst mem
        have fin : ∀ (cv : Value) (vv : V), RelV vv cv → (∀ u, RelV vv u → u = cv) → PE X (.Name t pt) (tC vv) → PySem.W.kitOne X.K (.ref (CNm.nm c)) cv = some (l.contains t) → Pst X.K H O g (.ok (.val (.bool (l.contains t))) w1) (CV H Q) → wpAny (model X.prog X.w) X.A (eval (.Call (.Name "isinstance" p) [a, .Name t pt] [] pos) X.env) (EP X pins σ Q) X.xe sh := by
          intro cv vv r1 r2 pn kt hh
          have A : PA X [a, .Name t pt] (tCons (tE X.K n G a) (tCons (tC vv) tNil)) := pa_cons ih (pa_cons pn pa_nil) (star_of (hs a (by simp)))
          refine (pe_callB call_isT hg hm PyProof.Rows.boot_isinstance A (by decide +kernel) hdb (star_of (hs a (by simp))) rfl).run pins sh σ H Q I ?_
          refine ⟨s, O, g, w, sr, st, ?_⟩
          rw [hv]
          intro H1 O1 g1 e1 s1 v rv
          have rv' : Rep g1 O1 H1 v (.dict [(.none, .str c)]) := rv
          cases rv' with
          | exc ha _ => exact ⟨_, _, vv, cv, _, rfl, ha, ok.ec, r2, kt, hh _ _ _ e1 s1 _ (.bl _)⟩
        by_cases ho : (G.xs t).isSome = true
        · obtain ⟨l2, hl2⟩ := Option.isSome_iff_exists.mp ho
          have ok2 := gd.xcl t l2 hl2
          rw [show ((G.xs t).isSome || decide (t = "ValueError")) = true by rw [ho]; rfl, if_pos rfl] at h
          exact fin (.ref (CNm.nm t)) (.ref (CNm.nm t)) rfl (fun u z => z) (pe_glob hgt ok2.m rfl hdt) (ok.kit t ho) h
        · by_cases hve : t = "ValueError"
          · subst hve
            rw [show ((G.xs "ValueError").isSome || decide (("ValueError" : Str) = "ValueError")) = true by simp, if_pos rfl] at h
            exact fin (.type "ValueError") (.ty "ValueError") rfl (fun u z => z) (pe_bltn hgt (gd.mve ⟨c, by rw [hxs]; rfl⟩) (by decide +kernel) rfl (by decide) hdt) ok.kve h
          · rw [show ((G.xs t).isSome || decide (t = "ValueError")) = false by simp [ho, hve], if_neg Bool.false_ne_true] at h
            exact (h : False).elim
end
end TM

namespace TM
open PySem PySem.Spec PyProof.Rows L2
variable [CNm]

/-! ### list(range(..)), methods -/
section
variable {X : Cx} {G : Cn} {n k : Nat} {pos p : Pos} {e a b c : Expr}
theorem evsW_length {f : EvF} : ∀ {es : List Expr} {w w' : Wd} {rs : List RV}, evsW f es w = .ok rs w' → rs.length = es.length
  | [], w, w', rs, h => by cases h; rfl
  | e :: r, w, w', rs, h => by
    unfold evsW at h
    cases he : f e w with
    | ok v w1 =>
      rw [he] at h
      simp only [R.bind_ok] at h
      cases hr : evsW f r w1 with
      | ok vs w2 =>
        rw [hr] at h
        simp only [R.bind_ok] at h
        cases h
        simp [evsW_length hr]
      | exc c w2 => rw [hr] at h; cases h
      | bad => rw [hr] at h; cases h
    | exc c w1 => rw [he] at h; cases h
    | bad => rw [he] at h; cases h
theorem evsW_one {f : EvF} {w : Wd} : evsW f [a] w = (f a w).bind fun v w => .ok [v] w := by
  unfold evsW
  cases f a w <;> rfl
theorem evsW_two {f : EvF} {w : Wd} : evsW f [a, b] w = (f a w).bind fun v w => (f b w).bind fun u w => .ok [v, u] w := by
  unfold evsW
  cases f a w with
  | ok v w1 =>
    simp only [R.bind_ok]
    rw [evsW_one]
    cases f b w1 <;> rfl
  | exc c w1 => rfl
  | bad => rfl
theorem bind_assoc {α β γ : Type} (m : R α) (f : α → Wd → R β) (h : β → Wd → R γ) : (m.bind f).bind h = m.bind fun x w => (f x w).bind h := by cases m <;> rfl
theorem rangeL_some {a b c : Int} {ds : List D} (h : rangeL a b c = some ds) : (0 < c ∧ c < 1000000 ∧ -1000000 ≤ a ∧ a ≤ 1000000 ∧ -1000000 ≤ b ∧ b ≤ 1000000) ∧ ds = (List.range ((b - a + c - 1) / c).toNat).map fun (i : Nat) => .int (a + (i : Int) * c) := by
  unfold rangeL at h
  split at h
  · rename_i hc
    cases h
    simp only [Bool.and_eq_true, decide_eq_true_eq] at hc
    exact ⟨⟨hc.1.1.1.1.1, hc.1.1.1.1.2, hc.1.1.1.2, hc.1.1.2, hc.1.2, hc.2⟩, rfl⟩
  · cases h
theorem rangeL_one {a b : Int} {ds : List D} (h : rangeL a b 1 = some ds) : ds = (List.range (b - a).toNat).map fun (i : Nat) => .int (a + (i : Int)) := by
  rw [(rangeL_some h).2, show (b - a + 1 - 1) / 1 = b - a by omega]
  simp
theorem reps_range {g : Gh} {O : Os} {H : Hp} (f : Nat → Int) (m : Nat) : Reps g O H ((List.range m).map fun i => V.int (f i)) ((List.range m).map fun i => .int (f i)) := by
  have h : ∀ l : List Nat, Reps g O H (l.map fun i => V.int (f i)) (l.map fun i => .int (f i)) := fun l => by
    induction l with
    | nil => exact .nil
    | cons x r ih => exact .cons (.int _) ih
  exact h _
theorem sv_listrg {N : List Str} {sc : Scope} {m : Nat} {x gn : Str} {as : List Expr} {pg pr : Pos} (gd : Good X G k) (hx : glB X.env.scope x = true) (hd : G.dfn x = false) (hl : bltTab.lookup x = some .list) (hgx : glB X.env.scope gn = true) (hgd : G.dfn gn = false) (hgl : bltTab.lookup gn = some .range)
    (hs : ∀ e ∈ as, chk m N sc e = true) (ih : ∀ e ∈ as, PE X e (tE X.K n G e)) :
    PE X (.Call (.Name x p) [.Call (.Name gn pg) as [] pr] [] pos) (fun σ H Q => ∃ s O g w, SRep g O H σ s ∧ St3 X.K H O g w ∧ Pst X.K H O g ((evsW (ev n G s) as w).bind fun vs w => (match vs with
        | [_, _, _] => .bad
        | vs => R.of ((rangeA vs).map .own) w)) (CV H Q)) := by
  obtain ⟨hg, hdb⟩ := gl_of hx
  obtain ⟨hg2, hdb2⟩ := gl_of hgx
  have hm := gd.blt x _ hd hl
  have hm2 := gd.blt gn _ hgd hgl
  have mem := blt_name hl
  simp only [bltTab, List.mem_cons, Prod.mk.injEq, List.not_mem_nil, or_false, reduceCtorEq, and_false, false_or, and_true] at mem
  subst mem
  have mem := blt_name hgl
  simp only [bltTab, List.mem_cons, Prod.mk.injEq, List.not_mem_nil, or_false, reduceCtorEq, and_false, false_or, and_true] at mem
  subst mem
  have fin : ∀ {H0 H : Hp} {O : Os} {g : Gh} {w : Wd} {Q : VK} {i j : Int}, St3 X.K H O g w → (∀ p, H p = none → H0 p = none) → Pst X.K H O g (R.of ((rangeL i j 1).map .own) w) (CV H0 Q) → RgOk i j ∧ ∀ q, H q = none → Q (.ref q) (upd H q (.lst (rgV i j))) := fun {H0 H O g w Q i j} st hb h => by
    obtain ⟨rz, ez, hz⟩ := h.of
    simp only [Option.map_eq_some_iff] at ez
    obtain ⟨ds, ed, rfl⟩ := ez
    have hc := (rangeL_some ed).1
    refine ⟨⟨by omega, by omega, by omega, by omega, by omega⟩, fun q hq => ?_⟩
    have e2 := rangeL_one ed
    subst e2
    exact endOwn st hb (reps_range (fun i' => i + (i' : Int)) _) hz hq
  match as, hs, ih with
  | [], hs, ih => exact ⟨fun pins s σ H Q I ⟨sl, O, g, w, _, st, q⟩ => (q : False).elim⟩
  | [a], hs, ih =>
    refine (pe_listRg gd.calm hg hm (prg_1 hg2 hm2 (ih a (by simp)) (star_of (hs a (by simp)))) rfl).imp fun σ H Q ⟨s, O, g, w, sr, st, h⟩ => ?_
    rw [evsW_one, bind_assoc] at h
    refine ⟨s, O, g, w, sr, st, h.bind.mono fun rx w1 H1 O1 g1 e1 s1 hx v rv => ?_⟩
    have hx : Pst X.K H1 O1 g1 (R.of ((rangeA [rx]).map .own) w1) (CV H Q) := hx.now e1 s1
    obtain ⟨rz, ez, hz⟩ := hx.of
    unfold rangeA at ez
    split at ez
    · rename_i i heq
      cases heq
      cases rv
      refine ⟨_, rfl, fin s1 (fun p hp => e1.back hp) ?_⟩
      rw [ez]; exact hz
    · rename_i heq; cases heq
    · rename_i heq; cases heq
    · cases ez
  | [a, b], hs, ih =>
    refine (pe_listRg gd.calm hg hm (prg_2 hg2 hm2 (ih a (by simp)) (ih b (by simp)) (star_of (hs a (by simp))) (star_of (hs b (by simp))) (plain_of fun e he => hs e (List.mem_cons_of_mem _ he))) rfl).imp fun σ H Q ⟨s, O, g, w, sr, st, h⟩ => ?_
    rw [evsW_two, bind_assoc] at h
    refine ⟨s, O, g, w, sr, st, h.bind.mono fun rx w1 H1 O1 g1 e1 s1 hx v rv => ⟨s, O1, g1, w1, sr.evo st e1, s1, ?_⟩⟩
    have hx := hx.now e1 s1
    rw [bind_assoc] at hx
    refine hx.bind.mono fun ry w2 H2 O2 g2 e2 s2 hy u ru => ?_
    have hy : Pst X.K H2 O2 g2 (R.of ((rangeA [rx, ry]).map .own) w2) (CV H Q) := hy.now e2 s2
    obtain ⟨rz, ez, hz⟩ := hy.of
    unfold rangeA at ez
    split at ez
    · rename_i heq; cases heq
    · rename_i i j heq
      cases heq
      cases rv
      cases ru
      refine ⟨_, _, rfl, rfl, fin s2 (fun p hp => e1.back (e2.back hp)) ?_⟩
      rw [ez]; exact hz
    · rename_i heq; cases heq
    · cases ez
  | a :: b :: c :: r, hs, ih =>
    refine ⟨fun pins s σ H Q I ⟨sl, O, g, w, _, st, q⟩ => ?_⟩
    exfalso
    cases he : evsW (ev n G sl) (a :: b :: c :: r) w with
    | ok rs w1 =>
      have hl := evsW_length he
      rw [he] at q
      simp only [R.bind_ok] at q
      match rs, hl with
      | [x, y, z], _ => exact q
      | x :: y :: z :: t :: u, _ =>
        have hn : rangeA (x :: y :: z :: t :: u) = none := by
          unfold rangeA
          split
          · rename_i heq; cases heq
          · rename_i heq; cases heq
          · rename_i heq; cases heq
          · rfl
        dsimp only at q
        rw [hn] at q
        exact q
    | exc c w1 => rw [he] at q; exact q
    | bad => rw [he] at q; exact q
theorem findD_ok {d : D} : ∀ {ds : List D} {j : Nat}, findD d ds = some j → (∃ z, ds[j]? = some z ∧ PyData.eqv z d = true) ∧ ∀ (m : Nat) (z : D), m < j → ds[m]? = some z → PyData.eqv z d = false
  | [], j, h => by simp [findD] at h
  | x :: r, j, h => by
    unfold findD at h
    split at h
    · rename_i hc
      cases h
      exact ⟨⟨x, rfl, hc⟩, fun m z hm => by omega⟩
    · rename_i hc
      simp only [Option.map_eq_some_iff] at h
      obtain ⟨i, hi, rfl⟩ := h
      obtain ⟨⟨z, h1, h2⟩, h3⟩ := findD_ok hi
      refine ⟨⟨z, by simpa using h1, h2⟩, fun m y hm hy => ?_⟩
      cases m with
      | zero =>
        have : x = y := by simpa using hy
        subst this
        simpa using hc
      | succ m => exact h3 m y (by omega) (by simpa using hy)
theorem base_name {x m : Str} {pn : Pos} {env : Env} : attributeBase (.Name x pn) m env (eval (.Name x pn) env) = eval (.Name x pn) env := rfl
theorem few_of {n : Nat} {N : List Str} {sc : Scope} {env : Env} {cpos : Pos} (h : chk n N sc a = true) : ((backTo cpos (starEach [a] env)).all (fun x => !x.1) && (backToKw cpos (keywordEach [] env)).all (fun x => x.1.isSome)
      && decide (([a] : List Expr).length + ([] : List Keyword).length + (if ([] : List Keyword).isEmpty then 0 else 1) < 30)) = true := by
  rw [star_of h]
  rfl
theorem asStrs_some : ∀ {ds : List D} {ys : List Str}, asStrs ds = some ys → ds = ys.map .str
  | [], ys, h => by cases h; rfl
  | .str i :: r, ys, h => by
    simp only [asStrs, Option.map_eq_some_iff] at h
    obtain ⟨zs, h1, rfl⟩ := h
    rw [asStrs_some h1]
    rfl
  | .none :: r, ys, h => by cases h
  | .bool _ :: r, ys, h => by cases h
  | .int _ :: r, ys, h => by cases h
  | .list _ :: r, ys, h => by cases h
  | .tuple _ :: r, ys, h => by cases h
  | .dict _ :: r, ys, h => by cases h
theorem reps_str {g : Gh} {O : Os} {H : Hp} : ∀ {vs : List V} {ys : List Str}, Reps g O H vs (ys.map .str) → vs = ys.map V.str
  | [], [], _ => rfl
  | _ :: _, [], h => by cases h
  | [], _ :: _, h => by cases h
  | v :: vs, y :: ys, h => by
    cases h with
    | cons h1 h2 =>
      cases h1
      rw [reps_str h2]
      rfl
theorem cnt_rep {g : Gh} {O : Os} {H : Hp} {y : V} {d : D} (ry : Rep g O H y d) (fd : flatD d = true) : ∀ {vs : List V} {ds : List D}, Reps g O H vs ds → ds.all flatD = true → (vs.countP fun z => eqV z y) = ds.countP fun z => PyData.eqv z d
  | [], [], _, _ => rfl
  | _ :: _, [], h, _ => by cases h
  | [], _ :: _, h, _ => by cases h
  | v :: vs, z :: ds, h, f => by
    rw [List.all_cons, Bool.and_eq_true] at f
    cases h with
    | cons h1 h2 =>
      rw [List.countP_cons, List.countP_cons, h1.eqV ry f.1 fd, cnt_rep ry fd h2 f.2]
def rCnt (K : PySem.W.Frag) : V → List V → Hp → VK → Prop := fun x xs H Q => ∃ (a : Addr) (ys : List V) (y : V), x = V.ref a ∧ xs = [y] ∧ SqL K H a ys ∧ flatV y = true ∧ ys.all flatV = true ∧ Q (.int ((ys.countP fun z => eqV z y : Nat) : Int)) H
theorem cnt_eqU {y : V} : ∀ {ys : List V} {its : List Value}, Vals ys its → ys.all flatV = true → its.countP (eqU y) = ys.countP fun z => eqV z y
  | _, _, .nil, _ => rfl
  | z :: ys, u :: its, .cons r t, f => by
    rw [List.all_cons, Bool.and_eq_true] at f
    rw [List.countP_cons, List.countP_cons, eqU_of r f.1, cnt_eqU t f.2]
theorem mt_count : MtR X "list.count" (rCnt X.K) := by
  intro pins s σ H x xs v us Q I rx rxs h
  obtain ⟨a, ys, y, rfl, rfl, hs, fy, fys, q⟩ := h
  cases rx
  cases rxs with
  | cons ry rt =>
    rename_i uy ut
    cases rt
    obtain ⟨its, rv, ⟨⟨cls, dd, data, sl⟩, n, ho, hc, hdn, hd⟩, hlen⟩ := I.list hs
    simp only at hc hd
    subst hc hd
    refine call_meets PySem.F.slot_list_count ⟨_, ho, rfl⟩ PySem.F.entry_list_count (PySem.F.args_list_count_2 _ _)
      (SeqAt.list_countAt a its.toArray n dd sl uy (eqU y)) ⟨ho, fun u' hu' => mem_eqAt ry fy rv fys u' (by simpa using hu'), ?_⟩
    refine ⟨.int _, H, I.tok _, ⟨s.toks, ?_⟩, q⟩
    rw [List.toList_toArray, cnt_eqU rv fys]
theorem sv_meth {N : List Str} {sc : Scope} {q : Nat} {m : Str} {o : Expr} {pa : Pos} (hob : ∀ m, attributeBase o m X.env (eval o X.env) = eval o X.env) (ho : PE X o (tE X.K n G o)) (hs : chk q N sc a = true) (ih : PE X a (tE X.K n G a)) (hl : (pa.endLine == pos.line) = true) :
    PE X (.Call (.Attribute o m pa) [a] [] pos) (fun σ H Q => ∃ s O g w, SRep g O H σ s ∧ St3 X.K H O g w ∧ Pst X.K H O g ((ev n G s o w).bind fun x w => (ev n G s a w).bind fun y w => R.of (mtop m x [y]) w) (CV H Q)) := by
  have A : PA X [a] (tA X.K n G [a]) := sv_args (es := [a]) (m := q) (N := N) (sc := sc) (fun e he => by rw [List.mem_singleton.mp he]; exact hs) fun e he => by rw [List.mem_singleton.mp he]; exact ih
  -- what both list methods ask first
  have nol : ∀ {mm : Str} {rx : RV} {s : Sl} {w1 : Wd} {H : Hp} {O : Os} {g : Gh} {C : RV → Wd → Hp → Os → Gh → Prop}, (∀ ry, mtop mm rx [ry] = none) → Pst X.K H O g ((ev n G s a w1).bind fun y w => R.of (mtop mm rx [y]) w) C → False := fun {mm rx s w1 H O g C} hn hx => by
    cases hv : ev n G s a w1 with
    | ok ry w2 =>
      rw [hv] at hx
      simp only [R.bind_ok] at hx
      rw [hn] at hx
      exact hx
    | exc c w2 => rw [hv] at hx; exact hx
    | bad => rw [hv] at hx; exact hx
  by_cases hm : m = "index"
  · subst hm
    refine (pe_bm PySem.F.plainAttrs_list PySem.F.slot_list_index PySem.F.type_list_index mt_index ho A (hob _) (few_of hs) hl (star_of hs) rfl).imp fun σ H Q ⟨s, O, g, w, sr, st, h⟩ => ?_
    have h' : Pst X.K H O g ((ev n G s o w).bind fun x w => (ev n G s a w).bind fun y w => R.of (mtop "index" x [y]) w) (CV H Q) := h
    refine ⟨s, O, g, w, sr, st, h'.bind.mono fun rx w1 H1 O1 g1 e1 s1 hx v rv => ?_⟩
    have hx := hx.now e1 s1
    cases hls : rx.lst? with
    | none =>
      exfalso
      exact nol (fun ry => by unfold mtop; rw [if_pos rfl, hls]) hx
    | some ds =>
      obtain ⟨b, rfl, vs, hb, rb⟩ := rv.b.lst hls
      refine ⟨.inl ⟨rfl, vs, SqL.of hb⟩, s, O1, g1, w1, sr.evo st e1, s1, ?_⟩
      rw [evsW_one]
      have hx2 : Pst X.K H1 O1 g1 (((ev n G s a w1).bind fun v w => R.ok [v] w).bind fun vs w => R.of (mtop "index" rx vs) w) (CV H Q) := by
        rw [bind_assoc]
        exact hx
      refine hx2.bind.mono fun rs w2 H2 O2 g2 e2 s2 hy us ru => ?_
      obtain ⟨rz, ez, hz⟩ := (hy.now e2 s2).of
      unfold mtop at ez
      rw [if_pos rfl, hls] at ez
      match rs, ru, ez with
      | [ry], ru, ez =>
        dsimp only at ez
        split at ez
        · rename_i hf
          simp only [Bool.and_eq_true] at hf
          simp only [Option.map_eq_some_iff] at ez
          obtain ⟨j, ej, rfl⟩ := ez
          cases ru with
          | cons r1 rt =>
            cases rt
            have rb2 := s1.repB e2 rv.b
            obtain ⟨b2, eb, vs2, hb2, rbs⟩ := rb2.lst hls
            cases eb
            have r1' := (RepA.rb s2.wf r1).flat hf.1
            obtain ⟨⟨z, z1, z2⟩, z3⟩ := findD_ok ej
            obtain ⟨y, y1, y2⟩ := rbs.get z1
            have fz : ∀ (i : Nat) (z : D), ds[i]? = some z → flatD z = true := fun i z hz => List.all_eq_true.mp hf.2 z (List.mem_of_getElem? hz)
            refine ⟨b, vs2, _, j, y, rfl, rfl, SqL.of hb2, r1'.flat hf.1, rbs.flat hf.2, y1, ?_, fun m y' hm hy' => ?_, endVal s2 (.int _) hz⟩
            · rw [y2.eqV r1' (fz j z z1) hf.1]; exact z2
            · obtain ⟨z', hz', rz'⟩ := rbs.get' hy'
              rw [rz'.eqV r1' (fz m z' hz') hf.1]
              exact z3 m z' hm hz'
        · cases ez
      | [], ru, ez => cases ez
      | _ :: _ :: _, ru, ez => cases ez
  by_cases hm2 : m = "count"
  · subst hm2
    refine (pe_bm PySem.F.plainAttrs_list PySem.F.slot_list_count PySem.F.type_list_count mt_count ho A (hob _) (few_of hs) hl (star_of hs) rfl).imp fun σ H Q ⟨s, O, g, w, sr, st, h⟩ => ?_
    have h' : Pst X.K H O g ((ev n G s o w).bind fun x w => (ev n G s a w).bind fun y w => R.of (mtop "count" x [y]) w) (CV H Q) := h
    refine ⟨s, O, g, w, sr, st, h'.bind.mono fun rx w1 H1 O1 g1 e1 s1 hx v rv => ?_⟩
    have hx := hx.now e1 s1
    cases hls : rx.lst? with
    | none =>
      exfalso
      exact nol (fun ry => by unfold mtop; rw [if_neg hm, if_pos rfl, hls]) hx
    | some ds =>
      obtain ⟨b, rfl, vs, hb, rb⟩ := rv.b.lst hls
      refine ⟨.inl ⟨rfl, vs, SqL.of hb⟩, s, O1, g1, w1, sr.evo st e1, s1, ?_⟩
      rw [evsW_one]
      have hx2 : Pst X.K H1 O1 g1 (((ev n G s a w1).bind fun v w => R.ok [v] w).bind fun vs w => R.of (mtop "count" rx vs) w) (CV H Q) := by
        rw [bind_assoc]
        exact hx
      refine hx2.bind.mono fun rs w2 H2 O2 g2 e2 s2 hy us ru => ?_
      obtain ⟨rz, ez, hz⟩ := (hy.now e2 s2).of
      unfold mtop at ez
      rw [if_neg hm, if_pos rfl, hls] at ez
      match rs, ru, ez with
      | [ry], ru, ez =>
        dsimp only at ez
        split at ez
        · rename_i hf
          simp only [Bool.and_eq_true] at hf
          cases ez
          cases ru with
          | cons r1 rt =>
            cases rt
            have rb2 := s1.repB e2 rv.b
            obtain ⟨b2, eb, vs2, hb2, rbs⟩ := rb2.lst hls
            cases eb
            have r1' := (RepA.rb s2.wf r1).flat hf.1
            refine ⟨b, vs2, _, rfl, rfl, SqL.of hb2, r1'.flat hf.1, rbs.flat hf.2, ?_⟩
            have ec : (vs2.countP fun z => eqV z _) = ds.countP fun z => PyData.eqv z ry.dat := cnt_rep r1' hf.1 rbs hf.2
            rw [ec]
            exact endVal s2 (.int _) hz
        · cases ez
      | [], ru, ez => cases ez
      | _ :: _ :: _, ru, ez => cases ez
  by_cases hm3 : m = "join"
  · subst hm3
    refine (pe_bm PySem.F.plainAttrs_str PySem.F.slot_str_join PySem.F.type_str_join mt_join ho A (hob _) (few_of hs) hl (star_of hs) rfl).imp fun σ H Q ⟨s, O, g, w, sr, st, h⟩ => ?_
    have h' : Pst X.K H O g ((ev n G s o w).bind fun x w => (ev n G s a w).bind fun y w => R.of (mtop "join" x [y]) w) (CV H Q) := h
    refine ⟨s, O, g, w, sr, st, h'.bind.mono fun rx w1 H1 O1 g1 e1 s1 hx v rv => ?_⟩
    have hx := hx.now e1 s1
    by_cases hstr : ∃ x, rx = .val (.str x)
    · obtain ⟨x, rfl⟩ := hstr
      have rv' : Rep g1 O1 H1 v (.str x) := rv
      cases rv'
      refine ⟨rfl, s, O1, g1, w1, sr.evo st e1, s1, ?_⟩
      rw [evsW_one]
      have hx2 : Pst X.K H1 O1 g1 (((ev n G s a w1).bind fun v w => R.ok [v] w).bind fun vs w => R.of (mtop "join" (.val (.str x)) vs) w) (CV H Q) := by
        rw [bind_assoc]
        exact hx
      refine hx2.bind.mono fun rs w2 H2 O2 g2 e2 s2 hy us ru => ?_
      obtain ⟨rz, ez, hz⟩ := (hy.now e2 s2).of
      unfold mtop at ez
      rw [if_neg hm, if_neg hm2, if_pos rfl] at ez
      match rs, ru, ez with
      | [ry], ru, ez =>
        dsimp only at ez
        cases hl2 : ry.lst? with
        | none => rw [hl2] at ez; cases ez
        | some ds =>
          rw [hl2] at ez
          dsimp only [Option.bind] at ez
          cases ha : asStrs ds with
          | none => rw [ha] at ez; cases ez
          | some ys =>
            rw [ha] at ez
            dsimp only at ez
            split at ez
            · rename_i hlen
              cases ez
              cases ru with
              | cons r1 rt =>
                cases rt
                obtain ⟨b2, eb, vs2, hb2, rbs⟩ := (RepA.rb s2.wf r1).lst hl2
                cases eb
                have := asStrs_some ha
                subst this
                have ev2 := reps_str rbs
                subst ev2
                refine ⟨x, b2, ys, rfl, rfl, .inl (SqL.of hb2), ?_, endVal s2 (.str _) hz⟩
                have hcap : cap = 100000 := rfl
                omega
            · cases ez
      | [], ru, ez => cases ez
      | _ :: _ :: _, ru, ez => cases ez
    · exfalso
      refine nol (fun ry => ?_) hx
      unfold mtop
      rw [if_neg hm, if_neg hm2, if_pos rfl]
      split
      · rename_i y b hy
        exact absurd ⟨_, rfl⟩ hstr
      · rfl
  · refine ⟨fun pins sh σ H Q I ⟨s, O, g, w, sr, st, hv⟩ => ?_⟩
    exfalso
    cases h1 : ev n G s o w with
    | ok rx w1 =>
      rw [h1] at hv
      simp only [R.bind_ok] at hv
      exact nol (fun ry => by unfold mtop; rw [if_neg hm, if_neg hm2, if_neg hm3]) hv
    | exc c w1 => rw [h1] at hv; exact hv
    | bad => rw [h1] at hv; exact hv
end
end TM

namespace TM
open PySem PySem.Spec PyProof.Rows L2
variable [CNm]
section
variable {X : Cx} {G : Cn} {n k : Nat} {pos p : Pos} {e a b c : Expr}
theorem spcK_some {r : RV} {k : Nat} (h : spcK r = some k) : r = .val (.dict [(.int (.ofNat k), .none)]) := by
  unfold spcK at h
  split at h
  · cases h; rfl
  · cases h
theorem isWat_some {o : Option WO} (h : isWat o = true) : ∃ sz nm nb ns, o = some (.wat sz nm nb ns) := by
  unfold isWat at h
  split at h
  · exact ⟨_, _, _, _, rfl⟩
  · cases h
theorem Paired.getL {α β : Type} {F : α → β → Prop} : ∀ {l : List α} {m : List β} {i : Nat} {a : α}, Paired F l m → l[i]? = some a → ∃ b, m[i]? = some b ∧ F a b
  | _, _, 0, a, .cons r t, h => by
    simp at h
    subst h
    exact ⟨_, rfl, r⟩
  | _, _, i + 1, a, .cons r t, h => by
    simp at h
    obtain ⟨b, h1, h2⟩ := Paired.getL t h
    exact ⟨b, by simpa using h1, h2⟩
  | _, _, _, _, .nil, h => by simp at h
theorem wTab_no {m z : Str} {t1 t2 t3 : V} (h : wTab.lookup m = some z) : List.lookup m [(("size" : Str), t1), ("rule", t2), ("line", t3)] = none := by
  have hm := lookup_mem h
  simp only [wTab, List.mem_cons, Prod.mk.injEq, List.not_mem_nil, or_false] at hm
  rcases hm with ⟨rfl, _⟩ | ⟨rfl, _⟩ | ⟨rfl, _⟩ | ⟨rfl, _⟩ | ⟨rfl, _⟩ | ⟨rfl, _⟩ <;> rfl
theorem mc_eq {o : Expr} {m : Str} {apos pos : Pos} {env : Env} {ov : Value} {n : Nat} {args : List (Bool × Sem Value)} {kws : List (Option Str × Sem Value)} (few : methodCallForm n args kws = true) (hl : (apos.endLine == pos.line) = true) : methodCall o m apos pos env ov n args kws = (do
    let (f, first) ← holding [ov] (getMethod ov m (do return (← importBound o env).getD true))
    callWith pos f first args kws) := by
  unfold methodCall calleeOf methodCallPos
  rw [few, hl]
  simp only [if_true, Bool.not_true, Bool.false_or, pure_bind]
/-- a call, of no dict's method -/
def tCW (K : PySem.W.Frag) (n : Nat) (G : Cn) (g : Expr) (args : List Expr) : TE := fun σ H Q => ∃ s O g' w, SRep g' O H σ s ∧ St3 K H O g' w ∧ Pst K H O g' (callW G (ev n G s) g args [] w) (CV H Q)
/-- the meaning of a call by an attribute -/
def atW (G : Cn) (n : Nat) (s : Sl) (o : Expr) (m : Str) (args : List Expr) (w : Wd) : R RV := (ev n G s o w).bind fun x w => (match spcK x with
  | some k => if isWat w[k]? && decide (args.length ≤ 1) then (match wTab.lookup m with
    | some z => if G.wt z then (evsW (ev n G s) args w).bind fun vs w => callT G.T z (x :: vs) w else .bad
    | none => .bad) else .bad
  | none => (match args with
    | [a] => (ev n G s a w).bind fun y w => R.of (mtop m x [y]) w
    | _ => .bad))
theorem sv_atr {N : List Str} {sc : Scope} {q : Nat} {x m : Str} {px pa : Pos} {args : List Expr} (gd : Good X G k) (ho : PE X (.Name x px) (tE X.K n G (.Name x px))) (hs : ∀ e ∈ args, chk q N sc e = true) (ih : ∀ e ∈ args, PE X e (tE X.K n G e)) (hl : (pa.endLine == pos.line) = true) :
    PE X (.Call (.Attribute (.Name x px) m pa) args [] pos) (tCW X.K n G (.Attribute (.Name x px) m pa) args) := by
  refine ⟨fun pins sh σ H Q I ⟨s, O, g, w, sr, st, h⟩ => ?_⟩
  have h : Pst X.K H O g (atW G n s (.Name x px) m args w) (CV H Q) := h
  unfold atW at h
  cases hv : ev n G s (.Name x px) w with
  | exc c w1 => rw [hv] at h; exact (h : False).elim
  | bad => rw [hv] at h; exact (h : False).elim
  | ok rx w1 =>
    rw [hv] at h
    simp only [R.bind_ok] at h
    cases hk : spcK rx with
    | none =>
      rw [hk] at h
      dsimp only at h
      match args, hs, ih, h with
      | [a], hs, ih, h =>
        refine (sv_meth (G := G) (m := m) (pa := pa) (pos := pos) (fun _ => base_name) ho (hs a (by simp)) (ih a (by simp)) hl).run pins sh σ H Q I ⟨s, O, g, w, sr, st, ?_⟩
        rw [hv]
        exact h
      | [], hs, ih, h => exact (h : False).elim
      | _ :: _ :: _, hs, ih, h => exact (h : False).elim
    | some kk =>
      rw [hk] at h
      dsimp only at h
      have ex := spcK_some hk
      subst ex
      by_cases hw : (isWat w1[kk]? && decide (args.length ≤ 1)) = true
      · rw [if_pos hw] at h
        simp only [Bool.and_eq_true, decide_eq_true_eq] at hw
        obtain ⟨hw, hlen⟩ := hw
        obtain ⟨sz, nm, nb, ns, hw⟩ := isWat_some hw
        cases hz : wTab.lookup m with
        | none => rw [hz] at h; exact (h : False).elim
        | some z =>
          rw [hz] at h
          dsimp only at h
          by_cases hwt : G.wt z = true
          · rw [if_pos hwt] at h
            have W := gd.wts ⟨z, hwt⟩
            obtain ⟨f, fd, ps, Mt, hb, F⟩ := (W.mt m z hz hwt).ex
            have obj : ∀ {H1 : Hp} {O1 : Os} {g1 : Gh} {v : V}, St3 X.K H1 O1 g1 w1 → RepV g1 O1 H H1 v (.val (.dict [(.int (.ofNat kk), .none)])) → ∃ ad dx fs, v = .ref ad ∧ H1 ad = some (.ins (He.ga X.K "Watcher") dx fs) ∧ fs.lookup m = none := fun {H1 O1 g1 v} s1 rv => by
              have rv : Rep g1 O1 H1 v (.dict [(.int (.ofNat kk), .none)]) := rv
              cases rv with
              | spc hg =>
                obtain ⟨wo, h1, h2⟩ := Paired.getL s1.wr.pr hg
                rw [hw] at h1
                cases h1
                rename_i o
                cases o with
                | wat ad dx l =>
                  obtain ⟨t, h3, _⟩ := h2
                  exact ⟨ad, dx, _, rfl, h3, wTab_no hz⟩
                | _ => exact h2.elim
            cases args with
            | nil =>
              refine (pe_meth0 (E := E0) ho W.cl Mt F gd.room hb .nil passL (mcall_of base_name fun ov => mc_eq rfl hl)).run pins sh σ H Q I ?_
              refine ⟨s, O, g, w, sr, st, ?_⟩
              rw [hv]
              intro H1 O1 g1 e1 s1 v rv
              obtain ⟨ad, dx, fs, rfl, q1, q2⟩ := obj s1 rv
              refine ⟨ad, dx, fs, rfl, q1, q2, ?_⟩
              have h := h.nxt H1 O1 g1 e1 s1
              exact call_sp (rs := [.val (.dict [(.int (.ofNat kk), .none)])]) (H0 := H) s1 (fun p hp => e1.back hp) (.cons rv .nil) h
            | cons a as =>
              have A := sv_args (X := X) hs ih
              have as0 : as = [] := List.eq_nil_of_length_eq_zero (by rw [List.length_cons] at hlen; omega)
              subst as0
              refine (pe_meth (E := E0) ho W.cl Mt F gd.room hb .nil passL A (star_of (hs a (by simp))) (plain_of fun e he => hs e (List.mem_cons_of_mem _ he)) (mcall_of base_name fun ov => mc_eq (few_of (hs a (by simp))) hl)).run pins sh σ H Q I ?_
              refine ⟨s, O, g, w, sr, st, ?_⟩
              rw [hv]
              intro H1 O1 g1 e1 s1 v rv
              obtain ⟨ad, dx, fs, rfl, q1, q2⟩ := obj s1 rv
              refine ⟨ad, dx, fs, rfl, q1, q2, ?_⟩
              have h := h.nxt H1 O1 g1 e1 s1
              refine ⟨s, O1, g1, w1, sr.evo st e1, s1, h.bind.mono fun rs w2 H2 O2 g2 e2 s2 hx vs ra => ?_⟩
              show spT X.K (G.T z) (.ref ad :: (vs ++ [])) H2 Q E0
              rw [List.append_nil]
              exact call_sp (rs := .val (.dict [(.int (.ofNat kk), .none)]) :: rs) (H0 := H) s2 (fun p hp => e1.back (e2.back hp)) (.cons (s1.rep e2 rv) ra) (hx.now e2 s2)
          · rw [if_neg hwt] at h
            exact (h : False).elim
      · rw [if_neg hw] at h
        exact (h : False).elim
/-- the call of the class -/
theorem sv_make {N : List Str} {sc : Scope} {q : Nat} {args : List Expr} {px : Pos} (gd : Good X G k) (hx : glB X.env.scope "Watcher" = true) (hwt : G.wt "Watcher.__init__" = true) (hs : ∀ e ∈ args, chk q N sc e = true) (ih : ∀ e ∈ args, PE X e (tE X.K n G e)) :
    PE X (.Call (.Name "Watcher" px) args [] pos) (fun σ H Q => ∃ s O g w, SRep g O H σ s ∧ St3 X.K H O g w ∧ Pst X.K H O g ((evsW (ev n G s) args w).bind fun vs w => (match datS vs with
          | some ds => G.T "Watcher.__init__" ds w
          | none => .bad)) (CV H Q)) := by
  obtain ⟨g1, g3⟩ := gl_of hx
  have W := gd.wts ⟨_, hwt⟩
  obtain ⟨f, fd, ps, M, hb, F⟩ := W.mak
  have go : ∀ {H : Hp} {O : Os} {g : Gh} {w : Wd} {H0 : Hp} {vs : List V} {rs : List RV} {Q : VK}, St3 X.K H O g w → (∀ p, H p = none → H0 p = none) → Paired (RepA g O H) vs rs → Pst X.K H O g (match datS rs with
          | some ds => G.T "Watcher.__init__" ds w
          | none => .bad) (CV H0 Q) → ∀ x dx, H x = none → H dx = none → dx ≠ x → spI X.K (G.T "Watcher.__init__") (.ref x :: vs) (upd (upd H dx (.own x)) x (.ins (He.ga X.K "Watcher") dx [])) (fun v H2 => v = .non ∧ Q (.ref x) H2) E0 := by
    intro H O g w H0 vs rs Q st hb0 ra h x dx nx nd ne
    cases hd : datS rs with
    | none => rw [hd] at h; exact (h : False).elim
    | some ds =>
      rw [hd] at h
      dsimp only at h
      refine ⟨x, dx, H, vs, O, g, w, ds, rfl, rfl, nx, nd, ne, st, repAs_dat ra hd, ?_⟩
      cases ht : G.T "Watcher.__init__" ds w with
      | ok r w2 =>
        rw [ht] at h
        intro H' O' g' e' s' rv
        refine ⟨rfl, h _ _ _ e' s' _ ?_⟩
        cases r with
        | val d => exact rv
        | own d =>
          obtain ⟨aa, q1, q2, q3, q4, q5⟩ := rv
          exact ⟨aa, q1, q2, q3, hb0 _ q4, q5⟩
        | bor d => exact rv
      | exc c w2 => rw [ht] at h; exact (h : False).elim
      | bad => rw [ht] at h; exact h
  cases args with
  | nil =>
    refine (pe_make0 (E := E0) M F gd.room1 g1 W.nm hb .nil passL g3).imp fun σ H Q ⟨s, O, g, w, sr, st, h⟩ => ?_
    intro x dx nx nd ne
    exact go (H0 := H) (rs := []) st (fun _ z => z) .nil h x dx nx nd ne
  | cons a as =>
    refine (pe_make (E := E0) M F gd.room1 g1 W.nm hb .nil passL (sv_args hs ih) g3 (star_of (hs a (by simp))) (plain_of fun e he => hs e (List.mem_cons_of_mem _ he))).imp fun σ H Q ⟨s, O, g, w, sr, st, h⟩ => ?_
    refine ⟨s, O, g, w, sr, st, h.bind.mono fun rs w1 H1 O1 g1 e1 s1 hx vs ra x dx nx nd ne => ?_⟩
    rw [List.append_nil]
    exact go (H0 := H) s1 (fun p hp => e1.back hp) ra (hx.now e1 s1) x dx nx nd ne
theorem wat_ins {K : PySem.W.Frag} {H : Hp} {O : Os} {g : Gh} {w : Wd} {kk : Nat} {v : V} (st : St3 K H O g w) (hw : isWat w[kk]? = true) (rv : Rep g O H v (.dict [(.int (.ofNat kk), .none)])) : ∃ ad dx fs, v = .ref ad ∧ H ad = some (.ins (He.ga K "Watcher") dx fs) := by
  obtain ⟨sz, nm, nb, ns, hw⟩ := isWat_some hw
  cases rv with
  | spc hg =>
    obtain ⟨wo, h1, h2⟩ := Paired.getL st.wr.pr hg
    rw [hw] at h1
    cases h1
    rename_i o
    cases o with
    | wat ad dx l =>
      obtain ⟨t, h3, _⟩ := h2
      exact ⟨ad, dx, _, rfl, h3⟩
    | _ => exact h2.elim
/-- len(x) of an object with its own __len__ -/
theorem lenO_w {C f ad dx : Addr} {fd : FuncData} {ps : List Str} {sp : Sp} {fs : List (Str × V)} {H : Hp} {Q : VK} (M : Meth X.K C "__len__" f) (F : FnOk X.prog X.w X.K X.mg X.base (L2.CX X.prog X.w) k f fd ps sp) (hr : Room (k + 1) X.A) (hb : Binds X.K fd ps []) (e : H ad = some (.ins C dx fs))
    (h : sp [.ref ad] H (fun v H' => ∃ n : Int, v = .int n ∧ 0 ≤ n ∧ n < 2 ^ 63 ∧ Q (.int n) H') E0) : cW X (.builtin "len") [.ref ad] H Q := by
  intro pins s σ us I r
  obtain ⟨u, rfl, ru⟩ := r.one
  cases (show u = Value.ref ad from ru)
  obtain ⟨mA, OM, _⟩ := ins_get I.hok e
  obtain ⟨od, J, _⟩ := OM.look
  refine Calls.call_function_entry PySem.kind_len PySem.plain_len PySem.entry_len (PySem.args_len1 _) ?_
  unfold Builtin.«len»
  refine wpAny_bind (m := oneArg "len" _) (wpAny_pure ?_)
  have len : ([Value.ref ad] : List Value).length = ps.length := F.len _ _ _ _ h
  have bb := hb s [.ref ad] I.kIn (by rw [List.append_nil]; exact len)
  rw [List.append_nil] at bb
  refine wpAny_bind (m := callSpecial? (.ref ad) (Str.ofString "__len__")) (PySem.W.special_fn I.kIn J M.at_ (beq_iff_eq.mp M.fn) (wpAny_call (codeAny_mono (F.run X.A.in1 X.stack s H ⟨[.ref ad], []⟩ [.ref ad] [.ref ad] _ _ hr.in1 I.env0.in1 bb (.cons rfl .nil) h) fun r s' hq => ?_)))
  match r, hq with
  | .error ex, hq => exact (passL (X := X) pins σ H s ex s' I hq)
  | .ok .next, hq => exact False.elim hq
  | .ok .brk, hq => exact False.elim hq
  | .ok .cont, hq => exact False.elim hq
  | .ok (.ret u), hq =>
    obtain ⟨v, H', I', rv, n, ev, h0, h1, q⟩ := I.after hq
    subst ev
    obtain ⟨t, eu⟩ := (show ∃ t, u = Value.int n t from rv)
    subst eu
    refine wpAny_bind (wpAny_holding (wpAny_pure ?_))
    refine wpAny_bind (wpAny_letGo ?_)
    show wpAny _ _ (if n < 0 then _ else _) _ _ _
    rw [if_neg (by omega)]
    show wpAny _ _ (if n ≥ 2 ^ 63 then _ else _) _ _ _
    rw [if_neg (by omega)]
    exact wpAny_bind (wpAny_mkInt (wpAny_pure ⟨_, rfl, .int n, H', I'.tok _, ⟨_, rfl⟩, q⟩))
theorem sv_bltR {N : List Str} {sc : Scope} {m : Nat} {x : Str} {bl : Blt} {as : List Expr} (gd : Good X G k) (hx : glB X.env.scope x = true) (hd : G.dfn x = false) (hl : bltTab.lookup x = some bl) (h1 : bl ≠ .range) (h2 : bl ≠ .isinst)
    (hs : ∀ e ∈ a :: as, chk m N sc e = true) (ih : ∀ e ∈ a :: as, PE X e (tE X.K n G e)) :
    PE X (.Call (.Name x p) (a :: as) [] pos) (fun σ H Q => ∃ s O g w, SRep g O H σ s ∧ St3 X.K H O g w ∧ Pst X.K H O g ((evsW (ev n G s) (a :: as) w).bind fun vs w => bltR G bl vs w) (CV H Q)) := by
  by_cases hlen : bl = .len
  · subst hlen
    obtain ⟨hg, hdb⟩ := gl_of hx
    have hm := gd.blt x .len hd hl
    have A := sv_args hs ih
    have st1 := star_of (env := X.env) (es := as) (hs a (by simp))
    have pl1 := plain_of (env := X.env) (pos := pos) (es := as) fun e he => hs e (List.mem_cons_of_mem _ he)
    have mem := blt_name hl
    simp only [bltTab, List.mem_cons, Prod.mk.injEq, List.not_mem_nil, or_false] at mem
    have ex : x = "len" := by
      rcases mem with ⟨e, _⟩ | ⟨_, e⟩ | ⟨_, e⟩ | ⟨_, e⟩ | ⟨_, e⟩ | ⟨_, e⟩ | ⟨_, e⟩ | ⟨_, e⟩ | ⟨_, e⟩ | ⟨_, e⟩ | ⟨_, e⟩ | ⟨_, e⟩ | ⟨_, e⟩ | ⟨_, e⟩ <;> first | exact e | cases e
    subst ex
    refine (pe_callB calW hg hm PySem.boot_len A (by decide +kernel) hdb st1 pl1).imp fun σ H Q ⟨s, O, g, w, sr, st, h⟩ => ?_
    refine ⟨s, O, g, w, sr, st, h.bind.mono fun rs w1 H1 O1 g1 e1 s1 hy0 vs ra => ?_⟩
    have hy := hy0.now e1 s1
    clear hy0
    unfold bltR at hy
    cases hk : lenS .len rs with
    | none =>
      rw [hk] at hy
      obtain ⟨rz, ez, hz⟩ := hy.of
      exact bltop_ok gd.calm s1 (fun p hp => e1.back hp) (repAs_b s1.wf ra) ez hz
    | some kk =>
      rw [hk] at hy
      dsimp only at hy
      by_cases hw : (isWat w1[kk]? && G.wt "Watcher.__len__") = true
      · rw [if_pos hw] at hy
        simp only [Bool.and_eq_true] at hw
        match rs, hk, ra with
        | [rx], hk, ra =>
          have ek := spcK_some (show spcK rx = some kk from hk)
          subst ek
          cases ra with
          | cons r1 rt =>
            cases rt
            have r1' : Rep g1 O1 H1 _ (.dict [(.int (.ofNat kk), .none)]) := r1
            obtain ⟨ad, dx, fs, rfl, e⟩ := wat_ins s1 hw.1 r1'
            have W := gd.wts ⟨_, hw.2⟩
            obtain ⟨f, fd, ps, Mt, hb, F⟩ := (W.mt "__len__" "Watcher.__len__" (by decide +kernel) hw.2).ex
            refine lenO_w Mt F gd.room1 hb e ⟨O1, g1, w1, [.dict [(.int (.ofNat kk), .none)]], s1, .cons r1' .nil, ?_⟩
            cases ht : G.T "Watcher.__len__" [.dict [(.int (.ofNat kk), .none)]] w1 with
            | bad => rw [ht] at hy; exact hy
            | exc c w2 => rw [ht] at hy; exact (hy : False).elim
            | ok r w2 =>
              rw [ht] at hy
              simp only [R.bind_ok] at hy
              unfold lenK at hy
              split at hy
              · rename_i n
                split at hy
                · rename_i hn
                  simp only [Bool.and_eq_true, decide_eq_true_eq] at hn
                  intro H2 O2 g2 e2 s2 v2 rv2
                  have rv2' : Rep g2 O2 H2 v2 (.int n) := rv2
                  cases rv2'
                  exact ⟨n, rfl, hn.1, by omega, hy _ _ _ e2 s2 _ (.int n)⟩
                · exact (hy : False).elim
              · exact (hy : False).elim
        | [], hk, ra => cases hk
        | _ :: _ :: _, hk, ra => cases hk
      · rw [if_neg hw] at hy
        exact (hy : False).elim
  · refine (sv_blt gd hx hd hl h1 h2 hs ih).imp fun σ H Q ⟨s, O, g, w, sr, st, h⟩ => ⟨s, O, g, w, sr, st, ?_⟩
    have e : ∀ vs w, bltR G bl vs w = R.of (bltop bl vs) w := fun vs w => by
      unfold bltR
      have : lenS bl vs = none := by
        unfold lenS
        split
        · exact absurd rfl hlen
        · rfl
      rw [this]
    simp only [e] at h
    exact h
end
end TM

namespace TM
open PySem PySem.Spec PyProof.Rows L2
variable [CNm]
section
variable {X : Cx} {G : Cn} {n k : Nat} {pos p : Pos} {e a b c : Expr}
theorem sv_fmt (ih : PE X a (tE X.K n G a)) : PE X (.FormattedValue a (-1) none pos) (tE X.K (n + 1) G (.FormattedValue a (-1) none pos)) := by
  refine (pe_fmt ih).imp fun σ H Q ⟨s, O, g, w, sr, st, h⟩ => ?_
  have h : Pst X.K H O g (if (-1 : Int) = -1 then (ev n G s a w).bind fmtC else .bad) (CV H Q) := h
  rw [if_pos rfl] at h
  refine ⟨s, O, g, w, sr, st, h.bind.mono fun rx w1 H1 O1 g1 e1 s1 hx v rv => ?_⟩
  have hx := hx.now e1 s1
  unfold fmtC at hx
  split at hx
  · split at hx
    · rename_i hl
      cases rv
      exact .inl ⟨_, rfl, Nat.le_trans hl cap_line, hx _ _ _ Evo.refl s1 _ (.str _)⟩
    · exact hx.elim
  · split at hx
    · rename_i hl
      cases rv
      exact .inr ⟨_, rfl, hl, hx _ _ _ Evo.refl s1 _ (.str _)⟩
    · exact hx.elim
  · exact hx.elim
theorem js_rd {s : Sl} {σ : L2.St} {Q : Str → Hp → Prop} : ∀ {es : List Expr} {acc : Str} {H : Hp} {O : Os} {g : Gh} {w : Wd}, SRep g O H σ s → St3 X.K H O g w → Pst X.K H O g (jnW (ev n G s) es acc w) (fun out _ H' _ _ => Q out H') → tJs (es.map fun e => tE X.K n G e) acc σ H Q
  | [], acc, H, O, g, w, sr, st, h => h _ _ _ Evo.refl st
  | e :: es, acc, H, O, g, w, sr, st, h => by
    have h : Pst X.K H O g ((ev n G s e w).bind fun v w => match v with
      | .val (.str y) => if (acc ++ y).length ≤ cap then jnW (ev n G s) es (acc ++ y) w else .bad
      | _ => .bad) (fun out _ H' _ _ => Q out H') := h
    refine ⟨s, O, g, w, sr, st, h.bind.mono fun rx w1 H1 O1 g1 e1 s1 hx v rv => ?_⟩
    have hx := hx.now e1 s1
    split at hx
    · split at hx
      · rename_i hl
        cases rv
        exact ⟨_, rfl, Nat.le_trans hl cap_line, js_rd (sr.evo st e1) s1 hx⟩
      · exact hx.elim
    · exact hx.elim
theorem pj_of : ∀ {es : List Expr}, (∀ e ∈ es, PE X e (tE X.K n G e)) → PJ X es (es.map fun e => tE X.K n G e)
  | [], _ => .nil
  | e :: es, h => .cons (h e (by simp)) (pj_of fun e he => h e (List.mem_cons_of_mem _ he))
theorem sv_jst {es : List Expr} (ih : ∀ e ∈ es, PE X e (tE X.K n G e)) : PE X (.JoinedStr es pos) (tE X.K (n + 1) G (.JoinedStr es pos)) := by
  match es, ih with
  | a :: b :: r, ih =>
    refine (pe_joined (pj_of ih)).imp fun σ H Q ⟨s, O, g, w, sr, st, h⟩ => ?_
    have h : Pst X.K H O g ((jnW (ev n G s) (a :: b :: r) Str.empty w).bind fun x w => .ok (.val (.str x)) w) (CV H Q) := h
    exact js_rd sr st (h.bind.mono fun x w1 H1 O1 g1 e1 s1 hx => hx.now e1 s1 _ _ _ Evo.refl s1 _ (.str x))
  | [], ih => exact ⟨fun pins sh σ H Q I ⟨s, O, g, w, sr, st, h⟩ => (h : False).elim⟩
  | [a], ih => exact ⟨fun pins sh σ H Q I ⟨s, O, g, w, sr, st, h⟩ => (h : False).elim⟩
end
end TM

namespace TM
open PySem PySem.Spec PyProof.Rows L2
variable [CNm]

/-! ### what is walked -/
abbrev Rel6 := Hp → Os → Gh → Hp → Os → Gh → Prop
def Rel (b : Bool) : Rel6 := match b with
  | true => fun H O g H' O' g' => Evo H O g H' O' g'
  | false => fun H O g H' O' g' => EvoS H O g H' O' g'
def SeqAt (Rl : Rel6) (g : Gh) (O : Os) (H : Hp) (J : It) (ds : List D) : Prop := ∃ (Gp : Hp → Prop) (Y : Nat → Hp → V → Hp → Prop), Walk J ds.length Gp Y ∧ (∀ H' O' g', Rl H O g H' O' g' → Gp H') ∧
  ∀ i H' O' g' x H'', Rl H O g H' O' g' → i < ds.length → Y i H' x H'' → H'' = H' ∧ ∃ d, ds[i]? = some d ∧ Rep g' O' H' x d
def CI (b : Bool) (Q : It → Hp → Prop) : List D → Wd → Hp → Os → Gh → Prop := fun ds _ H' O' g' => ∀ J, SeqAt (Rel b) g' O' H' J ds → Q J H'
def tI (K : PySem.W.Frag) (b : Bool) (n : Nat) (G : Cn) (e : Expr) : TI := fun σ H Q => ∃ s O g w, SRep g O H σ s ∧ St3 K H O g w ∧ Pst K H O g (iterW b G (ev n G s) e w) (CI b Q)
theorem seq_list {K : PySem.W.Frag} {b : Bool} {g : Gh} {O : Os} {H : Hp} {w : Wd} {a : Addr} {vs : List V} {ds : List D} (st : St3 K H O g w) (ha : H a = some (.lst vs)) (r : Reps g O H vs ds) (hk : b = false → ¬ O a) (hw : ¬ WA g a) : SeqAt (Rel b) g O H (Itl K a) ds := by
  have keep : ∀ H' O' g', Rel b H O g H' O' g' → H' a = some (.lst vs) ∧ Reps g' O' H' vs ds := fun H' O' g' e => by
    cases b with
    | true => exact ⟨(e : Evo H O g H' O' g').keep a _ ha hw, st.reps e r⟩
    | false => exact ⟨(e : EvoS H O g H' O' g').keep a _ ha (hk rfl), r.evoS e st.wf⟩
  refine ⟨_, _, by rw [← r.length]; exact walk_list (K := K) (a := a) (xs := vs), fun H' O' g' e => SqL.of (keep H' O' g' e).1, fun i H' O' g' x H'' e hi y => ?_⟩
  obtain ⟨e1, e2⟩ := y
  obtain ⟨d, h1, h2⟩ := (keep H' O' g' e).2.get' e2
  exact ⟨e1, d, h1, h2⟩
theorem seq_tup {K : PySem.W.Frag} {b : Bool} {g : Gh} {O : Os} {H : Hp} {w : Wd} {a : Addr} {vs : List V} {ds : List D} (st : St3 K H O g w) (ha : H a = some (.tup vs)) (r : Reps g O H vs ds) : SeqAt (Rel b) g O H (Itt K a) ds := by
  have ho : ¬ O a := fun z => st.wf.ot a z vs ha
  have keep : ∀ H' O' g', Rel b H O g H' O' g' → H' a = some (.tup vs) ∧ Reps g' O' H' vs ds := fun H' O' g' e => by
    cases b with
    | true => exact ⟨(e : Evo H O g H' O' g').keep a _ ha fun z => ho (st.wf.wao a z), st.reps e r⟩
    | false => exact ⟨(e : EvoS H O g H' O' g').keep a _ ha ho, r.evoS e st.wf⟩
  refine ⟨_, _, by rw [← r.length]; exact walk_tup (K := K) (a := a) (xs := vs), fun H' O' g' e => SqT.of (keep H' O' g' e).1, fun i H' O' g' x H'' e hi y => ?_⟩
  obtain ⟨e1, e2⟩ := y
  obtain ⟨d, h1, h2⟩ := (keep H' O' g' e).2.get' e2
  exact ⟨e1, d, h1, h2⟩
theorem seq_fn {J : It} {Rl : Rel6} {g : Gh} {O : Os} {H : Hp} {m : Nat} {f : Nat → Int} {ds : List D} (hd : ds = (List.range m).map fun i => .int (f i)) (hw : Walk J m (fun _ => True) (YFn fun i => .int (f i))) : SeqAt Rl g O H J ds := by
  have hl : ds.length = m := by rw [hd]; simp
  refine ⟨_, _, by rw [hl]; exact hw, fun _ _ _ _ => trivial, fun i H' O' g' x H'' e hi y => ?_⟩
  obtain ⟨e1, e2⟩ := y
  subst e2
  refine ⟨e1, _, ?_, .int (f i)⟩
  rw [hl] at hi
  rw [hd]
  simp [hi]
theorem range_len {a b c : Int} (hc : 0 < c) : Builtin.Range.rangeSize a b c = (((b - a + c - 1) / c).toNat : Int) := by
  unfold Builtin.Range.rangeSize
  rw [if_pos hc]
  split
  · rename_i h
    have e : b - a + c - 1 = b - a - 1 + 1 * c := by omega
    rw [e, Int.add_mul_ediv_right _ _ (by omega)]
    have : 0 ≤ (b - a - 1) / c := Int.ediv_nonneg (by omega) (by omega)
    omega
  · rename_i h
    have : (b - a + c - 1) / c ≤ 0 := by
      have h1 : (b - a + c - 1) / c ≤ (c - 1) / c := Int.ediv_le_ediv hc (by omega)
      have h2 : (c - 1) / c = 0 := Int.ediv_eq_zero_of_lt (by omega) (by omega)
      omega
    omega
theorem range_small {a b c : Int} (hc : 0 < c) (hc2 : c < 1000000) (h1 : -1000000 ≤ a) (h2 : a ≤ 1000000) (h3 : -1000000 ≤ b) (h4 : b ≤ 1000000) : Builtin.Range.small a b c = true := by
  have hn : 0 ≤ Builtin.Range.rangeSize a b c ∧ Builtin.Range.rangeSize a b c ≤ 4000000 := by
    unfold Builtin.Range.rangeSize
    rw [if_pos hc]
    split
    · rename_i h
      have k1 : 0 ≤ (b - a - 1) / c := Int.ediv_nonneg (by omega) (by omega)
      have k2 : (b - a - 1) / c ≤ b - a - 1 := Int.ediv_le_self _ (by omega)
      omega
    · omega
  unfold Builtin.Range.small
  generalize Builtin.Range.rangeSize a b c = m at hn
  simp only [Builtin.Range.rangeFitsLong, Bool.and_eq_true, Bool.or_eq_true, decide_eq_true_eq, beq_iff_eq, show c > 0 from hc, if_true]
  omega
section
variable {X : Cx} {G : Cn} {n k : Nat} {pos p : Pos} {e a b c tg : Expr}
theorem isRange_some {as : List Expr} (h : isRange G e = some as) : ∃ gn pg pr, e = .Call (.Name gn pg) as [] pr ∧ G.dfn gn = false ∧ bltTab.lookup gn = some Blt.range := by
  unfold isRange at h
  split at h
  · split at h
    · rename_i hc
      cases h
      simp only [Bool.and_eq_true, Bool.not_eq_true', decide_eq_true_eq] at hc
      exact ⟨_, _, _, rfl, hc.1, hc.2⟩
    · cases h
  · cases h
theorem evsW_three {f : EvF} {w : Wd} : evsW f [a, b, c] w = (f a w).bind fun v w => (f b w).bind fun u w => (f c w).bind fun t w => .ok [v, u, t] w := by
  unfold evsW
  cases f a w with
  | ok v w1 =>
    simp only [R.bind_ok]
    rw [evsW_two]
    cases f b w1 with
    | ok u w2 =>
      simp only [R.bind_ok]
      cases f c w2 <;> rfl
    | exc c w1 => rfl
    | bad => rfl
  | exc c w1 => rfl
  | bad => rfl
theorem sv_range {N : List Str} {sc : Scope} {m : Nat} {bb : Bool} {gn : Str} {as : List Expr} {pg pr : Pos} (gd : Good X G k) (hgx : glB X.env.scope gn = true) (hgd : G.dfn gn = false) (hgl : bltTab.lookup gn = some .range)
    (hs : ∀ e ∈ as, chk m N sc e = true) (ih : ∀ e ∈ as, PE X e (tE X.K n G e)) :
    PI X tg (.Call (.Name gn pg) as [] pr) (fun σ H Q => ∃ s O g w, SRep g O H σ s ∧ St3 X.K H O g w ∧ Pst X.K H O g ((evsW (ev n G s) as w).bind fun vs w => R.of (rangeA vs) w) (CI bb Q)) := by
  obtain ⟨hg2, hdb2⟩ := gl_of hgx
  have hm2 := gd.blt gn _ hgd hgl
  have mem := blt_name hgl
  simp only [bltTab, List.mem_cons, Prod.mk.injEq, List.not_mem_nil, or_false, reduceCtorEq, and_false, false_or, and_true] at mem
  subst mem
  have A := sv_args hs ih
  refine ⟨fun pins sh σ H Q I ⟨s, O, g, w, sr, st, h⟩ => ?_⟩
  cases hev : evsW (ev n G s) as w with
  | exc c w1 => rw [hev] at h; exact h.elim
  | bad => rw [hev] at h; exact h.elim
  | ok rs w1 =>
    rw [hev] at h
    simp only [R.bind_ok] at h
    obtain ⟨ds, ed, hz⟩ := h.of
    have hl := evsW_length hev
    unfold rangeA at ed
    split at ed
    · rename_i j
      match as, hl, hs, A, hev with
      | [a], _, hs, A, hev =>
        refine (pi_range1 hg2 hm2 A (star_of (hs a (by simp)))).run pins sh σ H Q I ⟨s, O, g, w, sr, st, ?_⟩
        rw [hev]
        intro H1 O1 g1 e1 s1 vs ra
        cases ra with
        | cons r1 rt =>
          cases rt; cases r1
          have hc := (rangeL_some ed).1
          refine ⟨j, rfl, by omega, by omega, hz _ _ _ e1 s1 _ (seq_fn (m := j.toNat) (f := fun i => 0 + (i : Int)) ?_ walk_range)⟩
          rw [rangeL_one ed]
          simp
    · rename_i i j
      match as, hl, hs, A, hev with
      | [a, b], _, hs, A, hev =>
        refine (pi_range2 hg2 hm2 A ?_ (star_of (hs b (by simp)))).run pins sh σ H Q I ⟨s, O, g, w, sr, st, ?_⟩
        · rw [star_of (hs a (by simp)), star_of (hs b (by simp))]; rfl
        rw [hev]
        intro H1 O1 g1 e1 s1 vs ra
        cases ra with
        | cons r1 rt =>
          cases rt with
          | cons r2 rt =>
            cases rt; cases r1; cases r2
            have hc := (rangeL_some ed).1
            refine ⟨i, j, rfl, ⟨by omega, by omega, by omega, by omega⟩, hz _ _ _ e1 s1 _ (seq_fn (m := (j - i).toNat) (f := fun t => i + (t : Int)) ?_ walk_range)⟩
            rw [rangeL_one ed]
    · rename_i i j c'
      match as, hl, hs, A, hev with
      | [a, b, c], _, hs, A, hev =>
        refine (pi_range3 hg2 hm2 A (star_of (hs a (by simp))) (plain_of fun e he => hs e (List.mem_cons_of_mem _ he))).run pins sh σ H Q I ⟨s, O, g, w, sr, st, ?_⟩
        rw [hev]
        intro H1 O1 g1 e1 s1 vs ra
        cases ra with
        | cons r1 rt =>
          cases rt with
          | cons r2 rt =>
            cases rt with
            | cons r3 rt =>
              cases rt; cases r1; cases r2; cases r3
              obtain ⟨hc, he⟩ := rangeL_some ed
              refine ⟨i, j, c', _, rfl, ⟨by omega, by omega, range_small hc.1 hc.2.1 hc.2.2.1 hc.2.2.2.1 hc.2.2.2.2.1 hc.2.2.2.2.2, range_len hc.1⟩, hz _ _ _ e1 s1 _ (seq_fn (m := ((j - i + c' - 1) / c').toNat) (f := fun t => i + (t : Int) * c') he walk_rangeC)⟩
    · cases ed
theorem sv_iter {N : List Str} {m : Nat} {bb : Bool} (gd : Good X G k) (hc : chk m N X.env.scope e = true) (he : PE X e (tE X.K n G e)) (ih : ∀ as, isRange G e = some as → ∀ e ∈ as, chk m N X.env.scope e = true ∧ PE X e (tE X.K n G e)) (hgl : ∀ gn pg as pr, e = .Call (.Name gn pg) as [] pr → glB X.env.scope gn = true) :
    PI X tg e (tI X.K bb n G e) := by
  cases hr : isRange G e with
  | some as =>
    obtain ⟨gn, pg, pr, rfl, h1, h2⟩ := isRange_some hr
    refine ⟨fun pins sh σ H Q I ⟨s, O, g, w, sr, st, h⟩ => ?_⟩
    refine (sv_range (bb := bb) gd (hgl gn pg as pr rfl) h1 h2 (fun e he => (ih as hr e he).1) fun e he => (ih as hr e he).2).run pins sh σ H Q I ⟨s, O, g, w, sr, st, ?_⟩
    unfold iterW at h
    rw [hr] at h
    exact h
  | none =>
    refine ⟨fun pins sh σ H Q I ⟨s, O, g, w, sr, st, h⟩ => ?_⟩
    unfold iterW at h
    rw [hr] at h
    dsimp only at h
    cases hev : ev n G s e w with
    | exc c w1 => rw [hev] at h; exact h.elim
    | bad => rw [hev] at h; exact h.elim
    | ok rx w1 =>
      rw [hev] at h
      simp only [R.bind_ok] at h
      by_cases hb : (rx.isBor && !bb) = true
      · rw [if_pos hb] at h; exact h.elim
      · rw [if_neg hb] at h
        obtain ⟨ds, ed, hz⟩ := h.of
        by_cases ht : ∃ xs, rx = .val (.tuple xs)
        · obtain ⟨xs, rfl⟩ := ht
          have e1 : xs = ds := Option.some.inj ed
          subst e1
          refine (pi_tup he).run pins sh σ H Q I ⟨s, O, g, w, sr, st, ?_⟩
          rw [hev]
          intro H1 O1 g1 e1 s1 v rv
          have rv' : Rep g1 O1 H1 v (.tuple xs) := rv
          cases rv' with
          | tup h1 r1 => exact ⟨_, rfl, ⟨_, SqT.of h1⟩, hz _ _ _ e1 s1 _ (seq_tup s1 h1 r1)⟩
        · have el : rx.lst? = some ds := by
            unfold seqOf at ed
            split at ed
            · exact absurd ⟨_, rfl⟩ ht
            · exact ed
          refine (pi_list he).run pins sh σ H Q I ⟨s, O, g, w, sr, st, ?_⟩
          rw [hev]
          intro H1 O1 g1 e1 s1 v rv
          cases rx with
          | val d =>
            cases d with
            | list xs =>
              cases el
              have rv' : Rep g1 O1 H1 v (.list ds) := rv
              cases rv' with
              | lst h1 n1 r1 => exact ⟨_, rfl, ⟨_, SqL.of h1⟩, hz _ _ _ e1 s1 _ (seq_list s1 h1 r1 (fun _ => n1) fun z => n1 (s1.wf.wao _ z))⟩
            | _ => cases el
          | own xs =>
            cases el
            obtain ⟨a, rfl, o, nw, f, vs, l1, l2⟩ := rv
            refine ⟨a, rfl, ⟨_, SqL.of l1⟩, hz _ _ _ (e1.rem st.wf f) (s1.rem nw) _ (seq_list (s1.rem nw) l1 (l2.anti fun _ z => z.1) (fun _ z => z.2 rfl) nw)⟩
          | bor xs =>
            cases el
            obtain ⟨a, rfl, o, nw, vs, l1, l2⟩ := rv
            have hbb : bb = true := by simpa using hb
            refine ⟨a, rfl, ⟨_, SqL.of l1⟩, hz _ _ _ e1 s1 _ (seq_list s1 l1 l2 (fun z => by rw [hbb] at z; cases z) nw)⟩
end

/-! ### targets -/
theorem SRep.setV {g : Gh} {O : Os} {H : Hp} {σ : L2.St} {s : Sl} {v : V} {d : D} (sr : SRep g O H σ s) (i : Nat) (r : Rep g O H v d) : SRep g O H (σ.set i (some v)) (s.set i (some (.val d))) := by
  refine ⟨by rw [List.length_set, List.length_set]; exact sr.len, fun j q hj => ?_, fun a b x ds es hab h1 h2 h3 h4 => ?_, fun a b d1 d2 h1 h2 => sr.ad a b d1 d2 (bor_set (fun _ z => by cases z) h1) (bor_set (fun _ z => by cases z) h2)⟩
  · by_cases e : i = j
    · subst e
      have hl : i < s.length := by
        have := (List.getElem?_eq_some_iff.mp hj).1
        simpa using this
      rw [List.getElem?_set_self hl] at hj
      cases hj
      exact ⟨v, by rw [List.getElem?_set_self (by rw [← sr.len]; exact hl)], r⟩
    · rw [List.getElem?_set_ne e] at hj
      obtain ⟨u, h1, h2⟩ := sr.at' j q hj
      exact ⟨u, by rw [List.getElem?_set_ne e]; exact h1, h2⟩
  · have ne : ∀ {j : Nat} {es : List D}, (s.set i (some (.val d)))[j]? = some (some (.own es)) → i ≠ j ∧ s[j]? = some (some (.own es)) := fun {j es} h => by
      by_cases e : i = j
      · subst e
        have hl : i < s.length := by
          have := (List.getElem?_eq_some_iff.mp h).1
          simpa using this
        rw [List.getElem?_set_self hl] at h
        cases h
      · rw [List.getElem?_set_ne e] at h
        exact ⟨e, h⟩
    obtain ⟨n1, k1⟩ := ne h1
    obtain ⟨n2, k2⟩ := ne h2
    rw [List.getElem?_set_ne n1] at h3
    rw [List.getElem?_set_ne n2] at h4
    exact sr.ap a b x ds es hab k1 k2 h3 h4
/-- the slots that a target names -/
def tgIx (N : List Str) (e : Expr) : List Nat := match e with
  | .Name x _ => (idx N x).toList
  | .Tuple es _ _ => es.filterMap fun e => match e with
    | .Name x _ => idx N x
    | _ => none
  | _ => []
/-- a name that may be stored -/
def StOk (X : Cx) (x : Str) : Prop := Loc X.env.scope x ∧ (X.fn x = true ∨ X.env.scope.names.lookup x = some .local)
def tTg (K : PySem.W.Frag) (N : List Str) (e : Expr) : TG := fun v σ H Q => ∃ s O g w d s', SRep g O H σ s ∧ St3 K H O g w ∧ Rep g O H v d ∧ tgt N e d s = some s' ∧ ∀ σ', SRep g O H σ' s' → (∀ vs : List Nat, (∀ i ∈ tgIx N e, i ∈ vs) → wipe σ' vs = wipe σ vs) → Q σ' H
theorem wipe_set {σ : L2.St} {i : Nat} {x : Option V} : ∀ {vs : List Nat}, i ∈ vs → wipe (σ.set i x) vs = wipe σ vs
  | [], h => nomatch h
  | j :: r, h => by
    show (wipe (σ.set i x) r).set j none = (wipe σ r).set j none
    by_cases e : i ∈ r
    · rw [wipe_set e]
    · have e2 : i = j := by
        rcases List.mem_cons.mp h with z | z
        · exact z
        · exact absurd z e
      subst e2
      have hw : ∀ l : List Nat, i ∉ l → wipe (σ.set i x) l = (wipe σ l).set i x := fun l => by
        induction l with
        | nil => intro _; rfl
        | cons t u ih =>
          intro hn
          show (wipe (σ.set i x) u).set t none = ((wipe σ u).set t none).set i x
          rw [ih fun z => hn (List.mem_cons_of_mem _ z), List.set_comm _ _ (fun z => hn (by rw [z]; exact List.mem_cons_self))]
      rw [hw r e, List.set_set]
section
variable {X : Cx} {G : Cn} {pos : Pos}
theorem sv_tgN {x : Str} (hN : X.N.Nodup) (hG : X.N = G.N) (ok : ∀ i, idx G.N x = some i → StOk X x) : PG X (.Name x pos) (tTg X.K G.N (.Name x pos)) := by
  cases hi : idx G.N x with
  | none => exact ⟨fun pins s σ H v u Q I r ⟨sl, O, g, w, d, s', _, _, _, ht, _⟩ => by
      simp only [tgt, hi] at ht
      cases ht⟩
  | some i =>
    obtain ⟨h1, h2⟩ := ok i hi
    refine (pg_name (i := i) hN (by rw [hG]; exact idx_get hi) h1 h2).imp fun v σ H Q ⟨s, O, g, w, d, s', sr, st, r, ht, q⟩ => ?_
    simp only [tgt, hi] at ht
    cases ht
    exact q _ (sr.setV i r) fun vs hv => wipe_set (hv i (by simp [tgIx, hi]))
/-- a tuple of names -/
def tTgs (K : PySem.W.Frag) (N : List Str) (es : List Expr) : TGs := fun vs σ H Q => ∃ s O g w ds s', SRep g O H σ s ∧ St3 K H O g w ∧ Reps g O H vs ds ∧ tgtS N es ds s = some s' ∧ ∀ σ', SRep g O H σ' s' → (∀ is : List Nat, (∀ i ∈ (es.filterMap fun e => match e with | .Name x _ => idx N x | _ => none), i ∈ is) → wipe σ' is = wipe σ is) → Q σ' H
theorem sv_tgs : ∀ {es : List Expr}, X.N.Nodup → X.N = G.N → (∀ x px, .Name x px ∈ es → ∀ i, idx G.N x = some i → StOk X x) → (∀ e ∈ es, ∃ x px, e = .Name x px) → PGs X es (tTgs X.K G.N es)
  | [], hN, hG, _, _ => ⟨fun pins s σ H vs us Q I r ⟨sl, O, g, w, ds, s', sr, st, rs, ht, q⟩ => by
      cases rs with
      | nil =>
        have e1 : sl = s' := Option.some.inj ht
        subst e1
        exact pgs_nil.run pins s σ H [] us Q I r ⟨rfl, q σ sr fun _ _ => rfl⟩
      | cons a b => cases ht⟩
  | e :: es, hN, hG, ok, nm => by
    obtain ⟨x, px, rfl⟩ := nm e (by simp)
    have ih := sv_tgs (es := es) hN hG (fun y py hy => ok y py (List.mem_cons_of_mem _ hy)) fun e he => nm e (List.mem_cons_of_mem _ he)
    have h1 : PG X (.Name x px) (tTg X.K G.N (.Name x px)) := sv_tgN hN hG fun i hi => ok x px (by simp) i hi
    refine ⟨fun pins s σ H vs us Q I r ⟨sl, O, g, w, ds, s', sr, st, rs, ht, q⟩ => ?_⟩
    refine (pgs_cons h1 ih rfl).run pins s σ H vs us Q I r ?_
    cases rs with
    | nil => simp [tgtS] at ht
    | @cons v vr d dr a b =>
      unfold tgtS at ht
      dsimp only at ht
      cases hi : idx G.N x with
      | none => rw [hi] at ht; cases ht
      | some i =>
        rw [hi] at ht
        dsimp only at ht
        refine ⟨v, vr, rfl, sl, O, g, w, d, sl.set i (some (.val d)), sr, st, a, by simp only [tgt, hi], fun σ' sr' hw => ⟨_, O, g, w, dr, s', sr', st, b, ht, fun σ2 sr2 hw2 => q σ2 sr2 fun is his => ?_⟩⟩
        rw [hw2 is fun j hj => his j (by simp [hi]; right; simpa using hj), hw is fun j hj => his j (by simp [tgIx, hi] at hj; simp [hi, hj])]
theorem ae_names : ∀ {es : List Expr} {env : Env}, (∀ e ∈ es, ∃ x px, e = .Name x px) → (assignEach es env).length = es.length ∧ (assignEach es env).findIdx? (·.1) = none
  | [], env, _ => ⟨rfl, rfl⟩
  | e :: es, env, nm => by
    obtain ⟨x, px, rfl⟩ := nm e (by simp)
    obtain ⟨h1, h2⟩ := ae_names (es := es) (env := env) fun e he => nm e (List.mem_cons_of_mem _ he)
    refine ⟨by show ((false, _) :: assignEach es env).length = _; simp [h1], ?_⟩
    show ((false, assign (.Name x px) env) :: assignEach es env).findIdx? (·.1) = none
    rw [List.findIdx?_cons]
    simp [h2]
theorem tgtS_len {N : List Str} : ∀ {es : List Expr} {ds : List D} {s s' : Sl}, tgtS N es ds s = some s' → ds.length = es.length
  | [], ds, s, s', h => by
    unfold tgtS at h
    split at h
    · rfl
    · cases h
  | e :: es, ds, s, s', h => by
    unfold tgtS at h
    split at h
    · split at h
      · simp [tgtS_len h]
      · cases h
    · cases h
theorem sv_tg {e : Expr} (hc : X.calm = true) (hN : X.N.Nodup) (hG : X.N = G.N) (ok : ∀ x px, (e = .Name x px ∨ ∃ es k p, e = .Tuple es k p ∧ .Name x px ∈ es) → ∀ i, idx G.N x = some i → StOk X x) (nm : ∀ es k p, e = .Tuple es k p → ∀ e ∈ es, ∃ x px, e = .Name x px) : PG X e (tTg X.K G.N e) := by
  cases e with
  | Name x px => exact sv_tgN hN hG fun i hi => ok x px (.inl rfl) i hi
  | Tuple es kk px =>
    have h := sv_tgs (X := X) (G := G) (es := es) hN hG (fun x p hx => ok x p (.inr ⟨es, kk, px, rfl, hx⟩)) (nm es kk px rfl)
    obtain ⟨a1, a2⟩ := ae_names (env := X.env) (nm es kk px rfl)
    refine (pg_tup hc h a1 a2).imp fun v σ H Q ⟨s, O, g, w, d, s', sr, st, r, ht, q⟩ => ?_
    unfold tgt at ht
    dsimp only at ht
    split at ht
    · rename_i ds
      have r' : Rep g O H v (.tuple ds) := r
      cases r' with
      | tup h1 r1 => exact ⟨_, _, rfl, SqT.of h1, by rw [r1.length]; exact tgtS_len ht, s, O, g, w, ds, s', sr, st, r1, ht, q⟩
    · cases ht
  | _ => exact ⟨fun pins s σ H v u Q I r ⟨sl, O, g, w, d, s', _, _, _, ht, _⟩ => by simp [tgt] at ht⟩
end
end TM

namespace TM
open PySem PySem.Spec PyProof.Rows L2
variable [CNm]
/-! ### dicts -/
omit [CNm] in
theorem asKey_some {d : D} {k : Ky} (h : asKey d = some k) : d = keyD k := by
  unfold asKey at h
  split at h
  · cases h; rfl
  · cases h; rfl
  · cases h
omit [CNm] in
theorem asKeyL_some : ∀ {ds : List D} {ks : List Ky}, asKeyL ds = some ks → ds = ks.map keyD
  | [], ks, h => by cases h; rfl
  | d :: r, ks, h => by
    unfold asKeyL at h
    split at h
    · rename_i k kr h1 h2
      cases h
      rw [asKey_some h1, asKeyL_some h2]
      rfl
    · cases h
omit [CNm] in
theorem asKeys_some {d : D} {ks : List Ky} (h : asKeys d = some ks) : d = ktD ks := by
  unfold asKeys at h
  split at h
  · unfold ktD
    rw [← asKeyL_some h]
  · cases h
omit [CNm] in
theorem asKey_key (k : Ky) : asKey (keyD k) = some k := by cases k <;> rfl
omit [CNm] in
theorem asKeyL_map : ∀ ks : List Ky, asKeyL (ks.map keyD) = some ks
  | [] => rfl
  | k :: r => by
    show (match asKey (keyD k), asKeyL (r.map keyD) with
      | some k, some ks => some (k :: ks)
      | _, _ => none) = _
    rw [asKey_key, asKeyL_map r]
omit [CNm] in
theorem asKeys_kt (ks : List Ky) : asKeys (ktD ks) = some ks := asKeyL_map ks
omit [CNm] in
theorem decP_enc (p : List Ky × D) : decP (encP p) = some p := by
  show (asKeys (ktD p.1)).map (fun ks => (ks, p.2)) = some p
  rw [asKeys_kt]
  rfl
omit [CNm] in
theorem decL_enc : ∀ ps : Dct, decL (ps.map encP) = some ps
  | [] => rfl
  | p :: r => by
    show (match decP (encP p), decL (r.map encP) with
      | some p, some ps => some (p :: ps)
      | _, _ => none) = _
    rw [decP_enc, decL_enc r]
theorem rep_key {g : Gh} {O : Os} {H : Hp} {v : V} {k : Ky} (h : Rep g O H v (keyD k)) : v = kV k := by
  cases k with
  | inl i => cases h; rfl
  | inr x => cases h; rfl
theorem reps_keys {g : Gh} {O : Os} {H : Hp} : ∀ {vs : List V} {ks : List Ky}, Reps g O H vs (ks.map keyD) → vs = ks.map kV
  | [], [], _ => rfl
  | _ :: _, [], h => by cases h
  | [], _ :: _, h => by cases h
  | v :: vs, k :: ks, h => by
    cases h with
    | cons h1 h2 =>
      rw [rep_key h1, reps_keys h2]
      rfl
theorem rep_kt {g : Gh} {O : Os} {H : Hp} {v : V} {ks : List Ky} (h : Rep g O H v (ktD ks)) : ∃ b, v = .ref b ∧ H b = some (.tup (ks.map kV)) := by
  unfold ktD at h
  cases h with
  | tup h1 r =>
    rw [reps_keys r] at h1
    exact ⟨_, rfl, h1⟩
theorem key_rep {g : Gh} {O : Os} {H : Hp} (k : Ky) : Rep g O H (kV k) (keyD k) := by
  cases k with
  | inl i => exact .int i
  | inr x => exact .str x
theorem keys_reps {g : Gh} {O : Os} {H : Hp} : ∀ ks : List Ky, Reps g O H (ks.map kV) (ks.map keyD)
  | [] => .nil
  | k :: r => .cons (key_rep k) (keys_reps r)
theorem kt_rep {g : Gh} {O : Os} {H : Hp} {b : Addr} {ks : List Ky} (h : H b = some (.tup (ks.map kV))) : Rep g O H (.ref b) (ktD ks) := .tup h (keys_reps ks)
theorem DRep.get {g : Gh} {O : Os} {H : Hp} {kvs : List (List Key × V)} {ps : Dct} (h : DRep g O H kvs ps) (k : List Ky) : (valV kvs k = none ∧ dgetD ps k = none) ∨ ∃ v d, valV kvs k = some v ∧ dgetD ps k = some d ∧ Rep g O H v d := by
  unfold DRep at h
  induction h with
  | nil => exact .inl ⟨rfl, rfl⟩
  | @cons p q l1 l2 r t ih =>
    by_cases e : p.1 = k
    · right
      refine ⟨p.2, q.2, valV_pos e, ?_, r.2⟩
      unfold dgetD
      rw [List.find?_cons, decide_eq_true (by rw [← r.1]; exact e)]
      rfl
    · have e' : ¬ q.1 = k := by rw [← r.1]; exact e
      rw [valV_neg e]
      have : dgetD (q :: l2) k = dgetD l2 k := by
        unfold dgetD
        rw [List.find?_cons, decide_eq_false e']
      rw [this]
      exact ih
theorem DRep.any {g : Gh} {O : Os} {H : Hp} {kvs : List (List Key × V)} {ps : Dct} (h : DRep g O H kvs ps) (k : List Ky) : (kvs.any fun kv => decide (kv.1 = k)) = ps.any fun kv => decide (kv.1 = k) := by
  unfold DRep at h
  induction h with
  | nil => rfl
  | @cons p q l1 l2 r t ih => rw [List.any_cons, List.any_cons, ih, r.1]
theorem DRep.put {g : Gh} {O : Os} {H : Hp} {kvs : List (List Key × V)} {ps : Dct} (h : DRep g O H kvs ps) (k : List Ky) {v : V} {d : D} (rv : Rep g O H v d) : DRep g O H (putK kvs k v) (dputD ps k d) := by
  have e := h.any k
  unfold putK dputD
  rw [e]
  split
  · unfold DRep at h ⊢
    clear e
    induction h with
    | nil => exact .nil
    | @cons p q l1 l2 r t ih =>
      rename_i hh
      refine .cons ?_ ?_
      · by_cases e : p.1 = k
        · have e' : q.1 = k := by rw [← r.1]; exact e
          dsimp only
          rw [if_pos e, if_pos e']
          exact ⟨r.1, rv⟩
        · have e' : ¬ q.1 = k := by rw [← r.1]; exact e
          dsimp only
          rw [if_neg e, if_neg e']
          exact r
      · clear ih hh
        induction t with
        | nil => exact .nil
        | @cons p q l1 l2 r t ih =>
          refine .cons ?_ ih
          by_cases e : p.1 = k
          · have e' : q.1 = k := by rw [← r.1]; exact e
            dsimp only
            rw [if_pos e, if_pos e']
            exact ⟨r.1, rv⟩
          · have e' : ¬ q.1 = k := by rw [← r.1]; exact e
            dsimp only
            rw [if_neg e, if_neg e']
            exact r
  · unfold DRep at h ⊢
    clear e
    induction h with
    | nil => exact .cons ⟨rfl, rv⟩ .nil
    | @cons p q l1 l2 r t ih =>
      rename_i hh
      refine .cons r ?_
      clear ih hh
      induction t with
      | nil => exact .cons ⟨rfl, rv⟩ .nil
      | @cons p q l1 l2 r t ih => exact .cons r ih
theorem DRep.len {g : Gh} {O : Os} {H : Hp} {kvs : List (List Key × V)} {ps : Dct} (h : DRep g O H kvs ps) : kvs.length = ps.length := by
  unfold DRep at h
  induction h with
  | nil => rfl
  | cons r t ih => simp [ih]
/-- the dict of a slot -/
theorem SRep.dct {g : Gh} {O : Os} {H : Hp} {σ : L2.St} {s : Sl} {G : Cn} {x : Str} {px : Pos} {j : Nat} {ps : Dct} (sr : SRep g O H σ s) (h : isDct G (.Name x px) s = some (j, ps)) : idx G.N x = some j ∧ s[j]? = some (some (.bor (ps.map encP))) ∧ ∃ a kvs, σ[j]? = some (some (.ref a)) ∧ O a ∧ ¬ WA g a ∧ Rd H a (.dT kvs) ∧ DRep g O H kvs ps := by
  unfold isDct at h
  dsimp only at h
  cases hi : idx G.N x with
  | none => rw [hi] at h; cases h
  | some i =>
    rw [hi] at h
    dsimp only at h
    split at h
    · rename_i ds hs
      simp only [Option.map_eq_some_iff] at h
      obtain ⟨ps', h1, h2⟩ := h
      cases h2
      obtain ⟨v, k1, a, kvs, ps2, rfl, e, o, n, rd, r⟩ := sr.at' _ _ hs
      subst e
      rw [decL_enc] at h1
      cases h1
      exact ⟨rfl, hs, a, kvs, k1, o, n, rd, r⟩
    · cases h
section
variable {X : Cx} {G : Cn} {n k : Nat} {pos p : Pos} {e a b c tg : Expr}
theorem star2 {N : List Str} {sc : Scope} {m : Nat} {env : Env} (ha : chk m N sc a = true) (hb : chk m N sc b = true) : starEach [a, b] env = [(false, eval a env), (false, eval b env)] := by
  rw [star_of ha, star_of hb]
  rfl
/-- a key as it is told -/
theorem key_at {g : Gh} {O : Os} {H H0 : Hp} {v : V} {r : RV} {ks : List Ky} (h : RepV g O H0 H v r) (hk : asKeys r.dat = some ks) : ∃ b, v = .ref b ∧ H b = some (.tup (ks.map kV)) := by
  cases r with
  | val d =>
    have e := asKeys_some hk
    have h : Rep g O H v d := h
    have e : d = ktD ks := e
    subst e
    exact rep_kt h
  | own ds => cases hk
  | bor ds => cases hk
theorem Evo.tup {H H' : Hp} {O O' : Os} {g g' : Gh} {b : Addr} {vs : List V} (e : Evo H O g H' O' g') (wf : Wf H O g) (h : H b = some (.tup vs)) : H' b = some (.tup vs) := e.keep _ _ h fun z => wf.ot _ (wf.wao _ z) _ h
/-- d.get(k, x) -/
theorem sv_dget {N : List Str} {sc : Scope} {m : Nat} {x : Str} {px pa : Pos} (gd : Good X G k) (hx : nameB G.N X.env.scope x = true) (hca : chk m N sc a = true) (hcb : chk m N sc b = true) (iha : PE X a (tE X.K n G a)) (ihb : PE X b (tE X.K n G b)) (hl : (pa.endLine == pos.line) = true) :
    PE X (.Call (.Attribute (.Name x px) "get" pa) [a, b] [] pos) (fun σ H Q => ∃ s O g w j ps, SRep g O H σ s ∧ St3 X.K H O g w ∧ isDct G (.Name x px) s = some (j, ps) ∧ Pst X.K H O g (dgetW (ev n G s) ps a b w) (CV H Q)) := by
  cases hi : idx G.N x with
  | none => exact ⟨fun pins sh σ H Q I ⟨s, O, g, w, j, ps, sr, st, hd, h⟩ => by
      obtain ⟨e, _⟩ := sr.dct hd
      rw [hi] at e
      cases e⟩
  | some i =>
    unfold nameB at hx
    rw [hi] at hx
    obtain ⟨v1, v2, v3⟩ := vis_of hx
    have hu := gd.room.units
    have m2 : M2 X (.Name x px) "get" pa a b pos := ⟨base_name, by rw [star2 hca hcb]; rfl, hl, by rw [star2 hca hcb]; rfl⟩
    refine (pe_dget2 (by omega) (pe_var (X := X) (i := i) (pos := px) (by rw [gd.N]; exact idx_get hi) v1 v2 v3) iha ihb m2).imp fun σ H Q ⟨s, O, g, w, j, ps, sr, st, hd, h⟩ => ?_
    obtain ⟨e0, hs, ad, kvs, k1, o, nw, rd, r⟩ := sr.dct hd
    rw [hi] at e0
    cases e0
    refine ⟨_, k1, ad, rfl, .inr ⟨kvs, rd⟩, s, O, g, w, sr, st, ?_⟩
    unfold dgetW at h
    refine h.bind.mono fun rx w1 H1 O1 g1 e1 s1 hx y ry => ⟨s, O1, g1, w1, sr.evo st e1, s1, (hx.now e1 s1).bind.mono fun rz w2 H2 O2 g2 e2 s2 hz z rzv => ?_⟩
    cases hk : asKeys rx.dat with
    | none => rw [hk] at hz; exact (hz.now e2 s2 : False).elim
    | some ks =>
      cases hf : frz rz with
      | none => rw [hk, hf] at hz; exact (hz.now e2 s2 : False).elim
      | some dz =>
        rw [hk, hf] at hz
        dsimp only at hz
        obtain ⟨bk, rfl, hb⟩ := key_at ry hk
        have hb2 := e2.tup s1.wf hb
        have e12 := e1.trans e2
        refine ⟨_, .inr ⟨kvs, ks, bk, rd_evo e12 nw rd, rfl, hb2, rfl⟩, ?_⟩
        rcases r.get ks with ⟨q1, q2⟩ | ⟨v, d, q1, q2, q3⟩
        · rw [q1]
          rw [q2] at hz
          obtain ⟨O5, e5, s5, r5⟩ := frz_ok s1.wf e2 s2 rzv hf
          exact endVal s5 r5 (hz.now e5 s5)
        · rw [q1]
          rw [q2] at hz
          exact endVal s2 (st.rep e12 q3) (hz.now e2 s2)
/-- d[k] -/
theorem sv_dix {x : Str} {px : Pos} (gd : Good X G k) (hx : nameB G.N X.env.scope x = true) (hns : isSlice b = false) (ihb : PE X b (tE X.K n G b)) :
    PE X (.Subscript (.Name x px) b pos) (fun σ H Q => ∃ s O g w j ps, SRep g O H σ s ∧ St3 X.K H O g w ∧ isDct G (.Name x px) s = some (j, ps) ∧ Pst X.K H O g (dixW (ev n G s) ps b w) (CV H Q)) := by
  cases hi : idx G.N x with
  | none => exact ⟨fun pins sh σ H Q I ⟨s, O, g, w, j, ps, sr, st, hd, h⟩ => by
      obtain ⟨e, _⟩ := sr.dct hd
      rw [hi] at e
      cases e⟩
  | some i =>
    unfold nameB at hx
    rw [hi] at hx
    obtain ⟨v1, v2, v3⟩ := vis_of hx
    have hu := gd.room.units
    have hn : NoSl b := fun ov iv => by
      unfold subscripted
      cases b <;> first | rfl | cases hns
    refine (pe_dget (by omega) (pe_var (X := X) (i := i) (pos := px) (by rw [gd.N]; exact idx_get hi) v1 v2 v3) ihb hn).imp fun σ H Q ⟨s, O, g, w, j, ps, sr, st, hd, h⟩ => ?_
    obtain ⟨e0, hs, ad, kvs, k1, o, nw, rd, r⟩ := sr.dct hd
    rw [hi] at e0
    cases e0
    refine ⟨_, k1, s, O, g, w, sr, st, ?_⟩
    unfold dixW at h
    refine h.bind.mono fun rx w1 H1 O1 g1 e1 s1 hx y ry => ?_
    have hx := hx.now e1 s1
    cases hk : asKeys rx.dat with
    | none => rw [hk] at hx; exact (hx : False).elim
    | some ks =>
      rw [hk] at hx
      obtain ⟨rz, ez, hz⟩ := hx.of
      obtain ⟨bk, rfl, hb⟩ := key_at ry hk
      rcases r.get ks with ⟨q1, q2⟩ | ⟨v, d, q1, q2, q3⟩
      · rw [q2] at ez
        cases ez
      · rw [q2] at ez
        cases ez
        exact ⟨ad, v, rfl, .inr ⟨kvs, ks, bk, rd_evo e1 nw rd, rfl, hb, q1.symm⟩, endVal s1 (st.rep e1 q3) hz⟩
end
/-! ### a dict is locked and unlocked -/
mutual
theorem Rep.updO {H : Hp} {O : Os} {g : Gh} {p : Addr} {u u' : HO} (hp : H p = some u) (hu : ∀ vs, u ≠ .tup vs) (o : O p) : ∀ {v : V} {d : D}, Rep g O H v d → Rep g O (upd H p u') v d
  | _, _, .non => .non
  | _, _, .bl b => .bl b
  | _, _, .int i => .int i
  | _, _, .str x => .str x
  | _, _, .lst (a := a) h n r => .lst (by rw [upd_ne (fun z => n (by rw [z]; exact o))]; exact h) n (Reps.updO hp hu o r)
  | _, _, .tup (a := a) h r => .tup (by rw [upd_ne (fun z => by rw [z, hp] at h; cases h; exact hu _ rfl)]; exact h) (Reps.updO hp hu o r)
  | _, _, .spc h => .spc h
  | _, _, .exc (a := a) h n => .exc (by rw [upd_ne (fun z => n (by rw [z]; exact o))]; exact h) n
theorem Reps.updO {H : Hp} {O : Os} {g : Gh} {p : Addr} {u u' : HO} (hp : H p = some u) (hu : ∀ vs, u ≠ .tup vs) (o : O p) : ∀ {vs : List V} {ds : List D}, Reps g O H vs ds → Reps g O (upd H p u') vs ds
  | _, _, .nil => .nil
  | _, _, .cons a b => .cons (Rep.updO hp hu o a) (Reps.updO hp hu o b)
end
/-- a dict, locked or not -/
def DO (u : HO) : Prop := ∃ kvs, u = .dT kvs ∨ ∃ od, u = .frz od (.dT kvs)
theorem DO.nt {u : HO} (h : DO u) : ∀ vs, u ≠ .tup vs := fun vs z => by
  obtain ⟨kvs, q | ⟨od, q⟩⟩ := h <;> (rw [q] at z; cases z)
theorem DO.nl {u : HO} (h : DO u) : ∀ o vs, u ≠ .frz o (.lst vs) := fun o vs z => by
  obtain ⟨kvs, q | ⟨od, q⟩⟩ := h <;> (rw [q] at z; cases z)
theorem St3.updD {K : PySem.W.Frag} {H : Hp} {O : Os} {g : Gh} {w : Wd} (s : St3 K H O g w) {p : Addr} {u u' : HO} (hp : H p = some u) (hu : DO u) (hu' : DO u') (n : ¬ WA g p) : St3 K (upd H p u') O g w := by
  refine ⟨⟨s.wf.wao, fun a z => ?_, fun a z vs => ?_⟩, ⟨?_, s.wr.nd⟩⟩
  · by_cases q : a = p
    · rw [q, upd_same]; simp
    · rw [upd_ne q]; exact s.wf.oal a z
  · by_cases q : a = p
    · rw [q, upd_same]; intro e; cases e; exact hu'.nt _ rfl
    · rw [upd_ne q]; exact s.wf.ot a z vs
  · have all : ∀ {l : Gh} {m : Wd}, (∀ a, WA l a → WA g a) → Paired (W1 K H) l m → Paired (W1 K (upd H p u')) l m := by
      intro l m hl h
      induction h with
      | nil => exact .nil
      | @cons o x l1 l2 h t ih =>
        refine .cons ?_ (ih fun a z => hl a (by obtain ⟨o', ho, ha⟩ := z; exact ⟨o', List.mem_cons_of_mem _ ho, ha⟩))
        have ne : ∀ a ∈ o.adr, a ≠ p := fun a ha z => n (by rw [← z]; exact hl a ⟨o, List.mem_cons_self, ha⟩)
        cases o with
        | drw a b => cases x with
          | drw ns c => exact ⟨by rw [upd_ne (ne a (by simp [GO.adr]))]; exact h.1, by rw [upd_ne (ne b (by simp [GO.adr]))]; exact h.2⟩
          | _ => exact h.elim
        | scr a => cases x with
          | scr ns => exact h.elim (fun ⟨o, q⟩ => .inl ⟨o, by rw [upd_ne (fun z => by rw [z, hp] at q; cases q; exact hu.nl _ _ rfl)]; exact q⟩) .inr
          | _ => exact h.elim
        | wat a b c => cases x with
          | wat sz nm nb ns =>
            obtain ⟨t, h1, h2, h3, h4⟩ := h
            exact ⟨t, by rw [upd_ne (ne a (by simp [GO.adr]))]; exact h1, by rw [upd_ne (ne b (by simp [GO.adr]))]; exact h2, by rw [upd_ne (fun z => by rw [z, hp] at h3; cases h3; exact hu.nt _ rfl)]; exact h3, by rw [upd_ne (ne c (by simp [GO.adr]))]; exact h4⟩
          | _ => exact h.elim
    exact all (fun _ z => z) s.wr.pr
end TM

namespace TM
open PySem PySem.Spec PyProof.Rows L2
variable [CNm]

theorem wipeS_len (s : Sl) : ∀ vs : List Nat, (wipeS s vs).length = s.length
  | [] => rfl
  | i :: r => by
    show ((wipeS s r).set i none).length = s.length
    rw [List.length_set, wipeS_len s r]
theorem wipeS_some {s : Sl} {i : Nat} {x : RV} : ∀ {vs : List Nat}, (wipeS s vs)[i]? = some (some x) → s[i]? = some (some x) ∧ i ∉ vs
  | [], h => ⟨h, by simp⟩
  | j :: r, h => by
    have h' : ((wipeS s r).set j none)[i]? = some (some x) := h
    by_cases e : j = i
    · subst e
      by_cases hl : j < (wipeS s r).length
      · rw [List.getElem?_set_self hl] at h'; cases h'
      · rw [List.getElem?_eq_none (by rw [List.length_set]; omega)] at h'; cases h'
    · rw [List.getElem?_set_ne e] at h'
      obtain ⟨h1, h2⟩ := wipeS_some h'
      exact ⟨h1, fun z => (List.mem_cons.mp z).elim (fun q => e q.symm) h2⟩
theorem SRep.wipe {g : Gh} {O : Os} {H : Hp} {σ : L2.St} {s : Sl} (sr : SRep g O H σ s) (vs : List Nat) : SRep g O H (L2.wipe σ vs) (wipeS s vs) := by
  refine ⟨by rw [wipeS_len, wipe_length]; exact sr.len, fun i r h => ?_, fun i j a ds es hij h1 h2 h3 h4 => ?_, fun i j d1 d2 h1 h2 => sr.ad i j d1 d2 (wipeS_some h1).1 (wipeS_some h2).1⟩
  · obtain ⟨h1, h2⟩ := wipeS_some h
    obtain ⟨v, h3, h4⟩ := sr.at' i r h1
    exact ⟨v, by rw [wipe_out h2]; exact h3, h4⟩
  · obtain ⟨k1, k2⟩ := wipeS_some h1
    obtain ⟨k3, k4⟩ := wipeS_some h2
    rw [wipe_out k2] at h3
    rw [wipe_out k4] at h4
    exact sr.ap i j a ds es hij k1 k3 h3 h4
theorem wipe_idem (σ : L2.St) (vs : List Nat) : L2.wipe (L2.wipe σ vs) vs = L2.wipe σ vs := by
  have h : ∀ l : List Nat, (∀ i ∈ l, i ∈ vs) → ∀ τ : L2.St, L2.wipe (L2.wipe τ l) vs = L2.wipe τ vs := fun l => by
    induction l with
    | nil => intro _ τ; rfl
    | cons i r ih =>
      intro hl τ
      show L2.wipe ((L2.wipe τ r).set i none) vs = _
      rw [wipe_set (hl i (by simp)), ih (fun j hj => hl j (List.mem_cons_of_mem _ hj))]
  exact h vs (fun _ z => z) σ

def tIfs (K : PySem.W.Frag) (n : Nat) (G : Cn) (ifs : List Expr) : TT := fun σ H Q => ∃ s O g w, SRep g O H σ s ∧ St3 K H O g w ∧ Pst K H O g (ifsW (ev n G s) ifs w) (CB Q)
theorem sv_ifs {X : Cx} {G : Cn} {n : Nat} {ifs : List Expr} (ih : ∀ e ∈ ifs, PT X e (tT X.K n G e)) : PTs X ifs (tIfs X.K n G ifs) := by
  match ifs, ih with
  | [], _ => exact ⟨fun pins sh σ H Q I ⟨s, O, g, w, sr, st, h⟩ => pts_nil.run pins sh σ H Q I (h _ _ _ Evo.refl st)⟩
  | [c], ih => exact ⟨fun pins sh σ H Q I h => (pts_one (ih c (by simp))).run pins sh σ H Q I h⟩
  | _ :: _ :: _, _ => exact ⟨fun pins sh σ H Q I ⟨s, O, g, w, sr, st, h⟩ => (h : False).elim⟩
theorem rest_cap {K : PySem.W.Frag} {H : Hp} {O : Os} {g : Gh} {m : R (List D)} {acc : List D} {C : RV → Wd → Hp → Os → Gh → Prop} (h : Pst K H O g (m.bind fun r w => if (acc ++ r).length ≤ cap then .ok (.own (acc ++ r)) w else .bad) C) : acc.length ≤ cap := by
  cases m with
  | ok r w =>
    simp only [R.bind_ok] at h
    split at h
    · rename_i hl
      rw [List.length_append] at hl
      omega
    · exact h.elim
  | exc c w => exact h.elim
  | bad => exact h.elim
/-- the turns of a comprehension, over what is walked -/
theorem lc_turns {K : PySem.W.Frag} {G : Cn} {n : Nat} {elt tg : Expr} {ifs : List Expr} {vs : List Nat} (htg : ∀ i ∈ tgIx G.N tg, i ∈ vs) {σ : L2.St} {H H1 : Hp} {O O1 : Os} {g g1 : Gh} {w w1 : Wd} {s : Sl} {Q : VK} {ds : List D} {J : It}
    (sr : SRep g O H σ s) (st : St3 K H O g w) (e1 : Evo H O g H1 O1 g1) (s1 : St3 K H1 O1 g1 w1) (sq : SeqAt (Rel true) g1 O1 H1 J ds)
    (hx : Pst K H1 O1 g1 ((compL (eltW G (ev n G) elt tg ifs (wipeS s vs)) ds w1).bind fun ds w => if ds.length ≤ cap then .ok (.own ds) w else .bad) (CV H Q)) (Dl : Addr) (hD : H1 Dl = none) :
    ∃ W : Nat → Nat → Hp → Prop, (∃ m, W 0 m (upd H1 Dl (.lst []))) ∧ ∀ i m H, W i m H →
      (J.stop i H ∧ Q (.ref Dl) H) ∨ (J.go i H ∧ ∃ Nx : Hp → Prop, (∀ H', Nx H' → ∃ m', m' < m ∧ W (i + 1) m' H') ∧ ∀ x H', J.yld i H x H' → tTg K G.N tg x (L2.wipe σ vs) H' fun σ2 H2 => L2.wipe σ2 vs = L2.wipe σ vs ∧ tIfs K n G ifs σ2 H2 fun b H3 =>
        if b = true then tE K n G elt σ2 H3 fun y H4 => ∃ acc, H4 Dl = some (.lst acc) ∧ acc.length < sizeLine ∧ Nx (upd H4 Dl (.lst (acc ++ [y]))) else Nx H3) := by
  obtain ⟨Gp, Y, wk, hG, hY⟩ := sq
  refine lc_it wk (fun i H' => ∃ O' g' w' acc accV, Evo H1 O1 g1 H' O' g' ∧ St3 K H' O' g' w' ∧ O' Dl ∧ ¬ WA g' Dl ∧ H' Dl = some (.lst accV) ∧ Reps g' O' H' accV acc ∧
    Pst K H1 O1 g1 ((compL (eltW G (ev n G) elt tg ifs (wipeS s vs)) (ds.drop i) w').bind fun r w => if (acc ++ r).length ≤ cap then .ok (.own (acc ++ r)) w else .bad) (CV H Q)) ?_ ?_ ?_ ?_
  · exact ⟨addO O1 Dl, g1, w1, [], [], Evo.newOwn s1.wf hD, s1.newOwn hD, .inr rfl, (s1.wf.fresh hD).2, upd_same, .nil, by simpa using hx⟩
  · rintro i H' hi ⟨O', g', w', acc, accV, ee, _⟩
    exact hG H' O' g' ee
  · rintro i x H' H'' hi ⟨O', g', w', acc, accV, ee, ss, od, nw, hd, ra, rest⟩ hy
    obtain ⟨rfl, d, hdi, rx⟩ := hY i H' O' g' x H'' ee hi hy
    have hdrop : ds.drop i = d :: ds.drop (i + 1) := by
      obtain ⟨hl, e⟩ := List.getElem?_eq_some_iff.mp hdi
      rw [List.drop_eq_getElem_cons hl, e]
    have hcap := rest_cap rest
    rw [hdrop] at rest
    unfold compL at rest
    have hev : ∃ o w3, eltW G (ev n G) elt tg ifs (wipeS s vs) d w' = .ok o w3 := by
      cases q : eltW G (ev n G) elt tg ifs (wipeS s vs) d w' with
      | ok o w3 => exact ⟨o, w3, rfl⟩
      | exc c w3 => rw [q] at rest; exact rest.elim
      | bad => rw [q] at rest; exact rest.elim
    obtain ⟨o, w3, hev⟩ := hev
    rw [hev] at rest
    simp only [R.bind_ok] at rest
    rw [bind_assoc] at rest
    unfold eltW at hev
    split at hev
    · cases hev
    · rename_i s' hts
      refine ⟨wipeS s vs, O', g', w', d, s', ((sr.evo st e1).evo s1 ee).wipe vs, ss, rx, hts, fun σ2 sr2 hw => ⟨by rw [hw vs htg, wipe_idem], s', O', g', w', sr2, ss, ?_⟩⟩
      cases hb : ifsW (ev n G s') ifs w' with
      | exc c w2 => rw [hb] at hev; cases hev
      | bad => rw [hb] at hev; cases hev
      | ok b w2 =>
        rw [hb] at hev
        simp only [R.bind_ok] at hev
        intro H3 O3 g3 e3 s3
        have d3 : H3 Dl = some (.lst accV) := e3.keep _ _ hd nw
        have nw3 : ¬ WA g3 Dl := WA.of_evo e3 (by rw [hd]; simp) nw
        cases b with
        | false =>
          cases hev
          show ∃ O' g' w' acc accV, _
          refine ⟨O3, g3, _, acc, accV, ee.trans e3, s3, e3.omono _ od, nw3, d3, ss.reps e3 ra, ?_⟩
          simpa using rest
        | true =>
          show tE K n G elt σ2 H3 _
          refine ⟨s', O3, g3, w2, sr2.evo ss e3, s3, ?_⟩
          cases hel : ev n G s' elt w2 with
          | exc c w4 => simp only [hel] at hev; cases hev
          | bad => simp only [hel] at hev; cases hev
          | ok ry w4 =>
            simp only [hel, R.bind_ok] at hev
            cases hf : frz ry with
            | none => rw [hf] at hev; cases hev
            | some dy =>
              rw [hf] at hev
              cases hev
              intro H4 O4 g4 e4 s4 y ryv
              obtain ⟨O5, e5, s5, r5⟩ := frz_ok s3.wf e4 s4 ryv hf
              have d4 : H4 Dl = some (.lst accV) := e5.keep _ _ d3 nw3
              have nw4 : ¬ WA g4 Dl := WA.of_evo e5 (by rw [d3]; simp) nw3
              have o4 : O5 Dl := e5.omono _ (e3.omono _ od)
              refine ⟨accV, d4, by rw [ra.length]; exact Nat.lt_of_le_of_lt hcap (by rw [sizeLine_eq]; decide), O5, g4, w3, acc ++ [dy], accV ++ [y], ((ee.trans e3).trans e5).mut hD, s5.mut d4 nw4, o4, nw4, upd_same, ?_, ?_⟩
              · exact ((s3.reps e5 (ss.reps e3 ra)).mut d4 o4).append (.cons (r5.mut d4 o4) .nil)
              · simpa using rest
  · rintro H' ⟨O', g', w', acc, accV, ee, ss, od, nw, hd, ra, rest⟩
    rw [List.drop_length] at rest
    simp only [compL, R.bind_ok, List.append_nil] at rest
    split at rest
    · exact rest _ _ _ ee ss _ ⟨Dl, rfl, od, nw, e1.back hD, accV, hd, ra⟩
    · exact rest.elim

theorem lc_read {K : PySem.W.Frag} {G : Cn} {n : Nat} {elt tg iter : Expr} {ifs : List Expr} {sc : Scope} {vs : List Nat} (hvs : vs = (ownOf G.N sc).map (·.2)) (htg : ∀ i ∈ tgIx G.N tg, i ∈ vs) {σ : L2.St} {H : Hp} {Q : VK}
    (h : ∃ s O g w, SRep g O H σ s ∧ St3 K H O g w ∧ isDct G iter s = none ∧ Pst K H O g (compW G (ev n G) elt [⟨tg, iter, ifs, 0⟩] sc s w) (CV H Q)) : tLc (tI K true n G iter) (tTg K G.N tg) (tIfs K n G ifs) (tE K n G elt) vs σ H Q := by
  obtain ⟨s, O, g, w, sr, st, hd, h⟩ := h
  unfold compW at h
  dsimp only at h
  rw [if_pos rfl, ← hvs] at h
  unfold itcW at h
  rw [hd] at h
  dsimp only at h
  exact ⟨s, O, g, w, sr, st, h.bind.mono fun ds w1 H1 O1 g1 e1 s1 hx J sq Dl hD => lc_turns htg sr st e1 s1 sq (hx.now e1 s1) Dl hD⟩
/-- the keys of a locked dict -/
theorem seq_dict {g : Gh} {O : Os} {H : Hp} {d : Addr} {od : Obj} {kvs : List (List Key × V)} {ps : Dct} (nw : ¬ WA g d) (hd : H d = some (.frz od (.dT kvs))) (r : DRep g O H kvs ps) : SeqAt (Rel true) g O H (Itkt d od kvs) (ps.map fun p => ktD p.1) := by
  refine ⟨_, _, by rw [List.length_map, ← r.len]; exact walk_keysT, fun H' O' g' e => (e : Evo H O g H' O' g').keep _ _ hd nw, fun i H' O' g' x H'' e hi y => ?_⟩
  obtain ⟨e1, ks, v, q, h1, h2, h3⟩ := y
  subst h2
  refine ⟨e1, ktD ks, ?_, kt_rep h3⟩
  have : ∀ {kvs : List (List Key × V)} {ps : Dct} {i : Nat}, DRep g O H kvs ps → kvs[i]? = some (ks, v) → (ps.map fun p => ktD p.1)[i]? = some (ktD ks) := by
    intro kvs ps i r
    unfold DRep at r
    induction r generalizing i with
    | nil => intro h; cases h
    | @cons p q l1 l2 r t ih =>
      intro h
      cases i with
      | zero =>
        have : p = (ks, v) := by simpa using h
        subst this
        have e : ks = q.1 := r.1
        rw [e]
        rfl
      | succ i => exact ih (by simpa using h)
  exact this r h1
/-- the heap of a state whose dict is locked -/
theorem lock_evo {H H' : Hp} {O O' : Os} {g g' : Gh} {d : Addr} {u l : HO} (hd : H d = some u) (nw : ¬ WA g d) (e : Evo (upd H d l) O g H' O' g') : Evo H O g (upd H' d u) O' g' where
  keep := fun a o h n => by
    by_cases q : a = d
    · subst q
      rw [hd] at h
      cases h
      exact upd_same
    · rw [upd_ne q]
      exact e.keep a o (by rw [upd_ne q]; exact h) n
  still := fun a h => by
    by_cases q : a = d
    · subst q; rw [upd_same]; simp
    · rw [upd_ne q]
      exact e.still a (by rw [upd_ne q]; exact h)
  omono := e.omono
  onew := fun b h => (e.onew b h).elim .inl fun z => .inr (by
    by_cases q : b = d
    · subst q; rw [upd_same] at z; cases z
    · rw [upd_ne q] at z; exact z)
  gpre := e.gpre
  gnew := fun a h => (e.gnew a h).elim .inl fun z => .inr (by
    by_cases q : a = d
    · subst q; rw [upd_same] at z; cases z
    · rw [upd_ne q] at z; exact z)
theorem DO.dt {kvs : List (List Key × V)} : DO (.dT kvs) := ⟨kvs, .inl rfl⟩
theorem DO.fz {kvs : List (List Key × V)} {od : Obj} : DO (.frz od (.dT kvs)) := ⟨kvs, .inr ⟨od, rfl⟩⟩
theorem RepV.updO {H0 H : Hp} {O : Os} {g : Gh} {p : Addr} {u u' : HO} (hp : H p = some u) (hu : DO u) (o : O p) {H0' : Hp} (h0 : ∀ a, H0 a = none → H0' a = none) {v : V} {r : RV} (h : RepV g O H0 H v r) : RepV g O H0' (upd H p u') v r := by
  have lat : ∀ {a : Addr} {ds : List D}, LAt g O H a ds → LAt g O (upd H p u') a ds := fun {a ds} ⟨vs, h1, h2⟩ => ⟨vs, by
    rw [upd_ne (fun z => by
      rw [z, hp] at h1
      cases h1
      obtain ⟨kvs, q | ⟨od, q⟩⟩ := hu <;> cases q)]
    exact h1, h2.updO hp hu.nt o⟩
  cases r with
  | val d => exact Rep.updO hp hu.nt o h
  | own ds => obtain ⟨a, q, oo, n, f, l⟩ := h; exact ⟨a, q, oo, n, h0 _ f, lat l⟩
  | bor ds => obtain ⟨a, q, oo, n, l⟩ := h; exact ⟨a, q, oo, n, lat l⟩
theorem SRep.lockD {g : Gh} {O : Os} {H : Hp} {σ : L2.St} {s : Sl} {p : Addr} {kvs : List (List Key × V)} {od : Obj} (sr : SRep g O H σ s) (hp : H p = some (.dT kvs)) (o : O p) : SRep g O (upd H p (.frz od (.dT kvs))) σ s := by
  refine ⟨sr.len, fun i r h => ?_, sr.ap, sr.ad⟩
  obtain ⟨v, h1, h2⟩ := sr.at' i r h
  refine ⟨v, h1, ?_⟩
  cases r with
  | val d => exact Rep.updO hp DO.dt.nt o h2
  | own ds =>
    obtain ⟨a, q, oo, n, vs, l1, l2⟩ := h2
    exact ⟨a, q, oo, n, vs, by rw [upd_ne (fun z => by rw [z, hp] at l1; cases l1)]; exact l1, l2.updO hp DO.dt.nt o⟩
  | bor ds =>
    obtain ⟨a, kvs2, ps, q, q2, oo, n, rd, r⟩ := h2
    refine ⟨a, kvs2, ps, q, q2, oo, n, ?_, r.mp fun _ _ z => z.updO hp DO.dt.nt o⟩
    by_cases e : a = p
    · subst e
      rcases rd with rd | ⟨od2, rd⟩
      · rw [hp] at rd
        cases rd
        exact .inr ⟨od, upd_same⟩
      · rw [hp] at rd
        cases rd
    · rcases rd with rd | ⟨od2, rd⟩
      · exact .inl (by rw [upd_ne e]; exact rd)
      · exact .inr ⟨od2, by rw [upd_ne e]; exact rd⟩

section
variable {X : Cx} {G : Cn} {n k : Nat} {pos p : Pos} {e a b c tg : Expr}
theorem Good.blk (gd : Good X G k) {scope : Scope} (hk : scope.kind = .function) (s : Shared) (H : Hp) (C : Addr) (cl : List (Str × Addr)) (fp : List Addr) : Good (X.blk s H scope (compEnvC scope cl C X.env) fp) G k :=
  ⟨gd.calm, gd.nd, gd.N, hk, gd.room1, gd.dfn, gd.blt, gd.ty, gd.xcl, gd.mve, gd.wts, gd.cst⟩
theorem folded_of {n : Nat} {N : List Str} {sc : Scope} {env : Env} (h : chk n N sc e = true) : ∀ x, foldedSetIterable e env x = pure x := by
  cases n with
  | zero => simp [chk] at h
  | succ n => intro x; cases e <;> first | rfl | (simp [chk] at h)
theorem tgt_ok {own : List (Str × Nat)} {sc : Scope} {N : List Str} (h : chkTg N own sc tg = true) : (∀ i ∈ tgIx N tg, i ∈ own.map (·.2)) ∧ (∀ x px, (tg = .Name x px ∨ ∃ es k p, tg = .Tuple es k p ∧ .Name x px ∈ es) → ∀ i, idx N x = some i → sc.names.lookup x = some .local) ∧ ∀ es k p, tg = .Tuple es k p → ∀ e ∈ es, ∃ x px, e = .Name x px := by
  have one : ∀ x px, chkTg1 N own sc (.Name x px) = true → ∀ i, idx N x = some i → sc.names.lookup x = some .local ∧ i ∈ own.map (·.2) := fun x px h1 i hi => by
    unfold chkTg1 at h1
    dsimp only at h1
    rw [hi] at h1
    simp only [Bool.and_eq_true, decide_eq_true_eq] at h1
    exact h1
  cases tg with
  | Name x px =>
    have h1 : chkTg1 N own sc (.Name x px) = true := h
    refine ⟨fun i hi => ?_, fun y py hy i hi => ?_, fun es k p he => by cases he⟩
    · have : idx N x = some i := by simpa [tgIx] using hi
      exact (one x px h1 i this).2
    · rcases hy with hy | ⟨es, k, p, hy, _⟩
      · cases hy; exact (one x px h1 i hi).1
      · cases hy
  | Tuple es kk pp =>
    have h1 : es.all (chkTg1 N own sc) = true := h
    have h2 := List.all_eq_true.mp h1
    have nm : ∀ e ∈ es, ∃ x px, e = .Name x px := fun e he => by
      have := h2 e he
      cases e <;> first | exact ⟨_, _, rfl⟩ | (simp [chkTg1] at this)
    refine ⟨fun i hi => ?_, fun y py hy i hi => ?_, fun es' k p he => by cases he; exact nm⟩
    · simp only [tgIx, List.mem_filterMap] at hi
      obtain ⟨e, he, hi⟩ := hi
      obtain ⟨x, px, rfl⟩ := nm e he
      exact (one x px (h2 _ he) i hi).2
    · rcases hy with hy | ⟨es', k, p, hy, hm⟩
      · cases hy
      · cases hy; exact (one y py (h2 _ hm) i hi).1
  | _ => simp [chkTg, chkTg1] at h
/-- what a comprehension's rules ask -/
structure LcOk (X : Cx) (G : Cn) (n : Nat) (elt tg iter : Expr) (ifs : List Expr) (scope : Scope) : Prop where
  hi : PI X tg iter (tI X.K true n G iter)
  ok : BlkOk X.N X.env.scope scope (ownOf G.N scope)
  hg : ∀ (s : Shared) (H : Hp) (C : Addr) (cl : List (Str × Addr)) (fp : List Addr), PG (X.blk s H scope (compEnvC scope cl C X.env) fp) tg (tTg X.K G.N tg)
  ht : ∀ (s : Shared) (H : Hp) (C : Addr) (cl : List (Str × Addr)) (fp : List Addr), PTs (X.blk s H scope (compEnvC scope cl C X.env) fp) ifs (tIfs X.K n G ifs)
  he : ∀ (s : Shared) (H : Hp) (C : Addr) (cl : List (Str × Addr)) (fp : List Addr), PE (X.blk s H scope (compEnvC scope cl C X.env) fp) elt (tE X.K n G elt)
  hs : ∀ x, foldedSetIterable iter X.env x = pure x
  htg : ∀ i ∈ tgIx G.N tg, i ∈ (ownOf G.N scope).map (·.2)
theorem sv_comp {elt iter : Expr} {ifs : List Expr} {scope : Scope} (gd : Good X G k) (L : LcOk X G n elt tg iter ifs scope) (hnm : ∀ x px, iter = .Name x px → nameB G.N X.env.scope x = true) : PE X (.ListComp elt [⟨tg, iter, ifs, 0⟩] scope pos) (tE X.K (n + 1) G (.ListComp elt [⟨tg, iter, ifs, 0⟩] scope pos)) := by
  refine ⟨fun pins sh σ H Q I ⟨s, O, g, w, sr, st, h⟩ => ?_⟩
  have h : Pst X.K H O g (compW G (ev n G) elt [⟨tg, iter, ifs, 0⟩] scope s w) (CV H Q) := h
  cases hd : isDct G iter s with
  | none => exact (pe_lc gd.calm gd.nd L.hi L.ok L.hg L.ht L.he L.hs).run pins sh σ H Q I (lc_read rfl L.htg ⟨s, O, g, w, sr, st, hd, h⟩)
  | some q =>
    obtain ⟨j, ps⟩ := q
    obtain ⟨x, px, rfl⟩ : ∃ x px, iter = .Name x px := by
      unfold isDct at hd
      split at hd
      · exact ⟨_, _, rfl⟩
      · cases hd
    obtain ⟨hi, hs, ad, kvs, k1, o, nw, rd, r⟩ := sr.dct hd
    have hx := hnm x px rfl
    unfold nameB at hx
    rw [hi] at hx
    obtain ⟨v1, v2, v3⟩ := vis_of hx
    have pk : PI X tg (.Name x px) (iKeys (tVar j)) := pi_keys (pe_var (X := X) (i := j) (pos := px) (by rw [gd.N]; exact idx_get hi) v1 v2 v3)
    have pl := pe_lc (pos := pos) gd.calm gd.nd pk L.ok L.hg L.ht L.he L.hs
    unfold compW at h
    dsimp only at h
    rw [if_pos rfl] at h
    unfold itcW at h
    rw [hd] at h
    simp only [R.bind_ok] at h
    rcases rd with rd | ⟨od, rd⟩
    · refine (pe_lock pl).run pins sh σ H Q I ⟨ad, _, rd, trivial, fun od => ⟨_, k1, ad, od, rfl, .inr ⟨kvs, upd_same, fun Dl hD => ?_⟩⟩⟩
      have st1 := st.updD (u' := .frz od (.dT kvs)) rd DO.dt DO.fz nw
      refine lc_turns (vs := (ownOf G.N scope).map (·.2)) (Q := fun v H' => H' ad = some (.frz od (.dT kvs)) ∧ Q v (upd H' ad (.dT kvs))) L.htg (sr.lockD (od := od) rd o) st1 Evo.refl st1 (seq_dict nw upd_same (r.mp fun _ _ z => z.updO rd DO.dt.nt o)) ?_ Dl hD
      generalize (compL (eltW G (ev n G) elt tg ifs (wipeS s ((ownOf G.N scope).map (·.2)))) (ps.map fun p => ktD p.1) w).bind (fun ds w => if ds.length ≤ cap then (R.ok (RV.own ds) w : R RV) else .bad) = m at h
      cases m with
      | bad => exact h
      | exc c w' => exact h
      | ok rr w' =>
        intro H' O' g' e' s' v rv
        have hfz : H' ad = some (.frz od (.dT kvs)) := e'.keep _ _ upd_same nw
        have nw' : ¬ WA g' ad := WA.of_evo e' (by rw [upd_same]; simp) nw
        have o' : O' ad := e'.omono _ o
        refine ⟨hfz, h _ _ _ (lock_evo rd nw e') (s'.updD hfz DO.fz DO.dt nw') v (rv.updO hfz DO.fz o' fun a z => ?_)⟩
        by_cases q : a = ad
        · subst q; rw [upd_same] at z; cases z
        · rw [upd_ne q] at z; exact z
    · exact pl.run pins sh σ H Q I ⟨_, k1, ad, od, rfl, .inr ⟨kvs, rd, fun Dl hD => lc_turns L.htg sr st Evo.refl st (seq_dict nw rd r) h Dl hD⟩⟩
theorem isDct_no (h : ∀ x p, a ≠ .Name x p) {s : Sl} : isDct G a s = none := by
  unfold isDct
  split
  · exact absurd rfl (h _ _)
  · rfl
/-- a[b] -/
theorem sv_sub (old : PE X (.Subscript a b pos) (tSW X.K n G a b)) (dic : ∀ x px, a = .Name x px → isSlice b = false → PE X (.Subscript a b pos) (fun σ H Q => ∃ s O g w j ps, SRep g O H σ s ∧ St3 X.K H O g w ∧ isDct G (.Name x px) s = some (j, ps) ∧ Pst X.K H O g (dixW (ev n G s) ps b w) (CV H Q))) : PE X (.Subscript a b pos) (tE X.K (n + 1) G (.Subscript a b pos)) := by
  refine ⟨fun pins sh σ H Q I ⟨s, O, g, w, sr, st, h0⟩ => ?_⟩
  have h : Pst X.K H O g (match isDct G a s with
      | some (_, ps) => if isSlice b then .bad else dixW (ev n G s) ps b w
      | none => subW (ev n G s) a b w) (CV H Q) := h0
  clear h0
  cases hd : isDct G a s with
  | none =>
    rw [hd] at h
    exact old.run pins sh σ H Q I ⟨s, O, g, w, sr, st, h⟩
  | some q =>
    obtain ⟨j, ps⟩ := q
    rw [hd] at h
    dsimp only at h
    obtain ⟨x, px, rfl⟩ : ∃ x px, a = .Name x px := by
      unfold isDct at hd
      split at hd
      · exact ⟨_, _, rfl⟩
      · cases hd
    cases hsl : isSlice b with
    | true => rw [hsl] at h; exact (h : False).elim
    | false =>
      rw [hsl] at h
      exact (dic x px rfl hsl).run pins sh σ H Q I ⟨s, O, g, w, j, ps, sr, st, hd, h⟩
/-- a call by an attribute of a name -/
theorem sv_callA {x m : Str} {px pa : Pos} {args : List Expr} (old : PE X (.Call (.Attribute (.Name x px) m pa) args [] pos) (tCW X.K n G (.Attribute (.Name x px) m pa) args)) (dic : ∀ a b, m = "get" → args = [a, b] → PE X (.Call (.Attribute (.Name x px) m pa) args [] pos) (fun σ H Q => ∃ s O g w j ps, SRep g O H σ s ∧ St3 X.K H O g w ∧ isDct G (.Name x px) s = some (j, ps) ∧ Pst X.K H O g (dgetW (ev n G s) ps a b w) (CV H Q))) : PE X (.Call (.Attribute (.Name x px) m pa) args [] pos) (tE X.K (n + 1) G (.Call (.Attribute (.Name x px) m pa) args [] pos)) := by
  refine ⟨fun pins sh σ H Q I ⟨s, O, g, w, sr, st, h0⟩ => ?_⟩
  have h : Pst X.K H O g (match isDget G s (.Attribute (.Name x px) m pa) args [] with
      | some (ps, a, b) => dgetW (ev n G s) ps a b w
      | none => callW G (ev n G s) (.Attribute (.Name x px) m pa) args [] w) (CV H Q) := h0
  clear h0
  cases hd : isDget G s (.Attribute (.Name x px) m pa) args [] with
  | none =>
    rw [hd] at h
    exact old.run pins sh σ H Q I ⟨s, O, g, w, sr, st, h⟩
  | some q =>
    obtain ⟨ps, a, b⟩ := q
    rw [hd] at h
    dsimp only at h
    unfold isDget at hd
    dsimp only at hd
    split at hd
    · rename_i a' b' _ _
      split at hd
      · rename_i hm
        simp only [Option.map_eq_some_iff] at hd
        obtain ⟨⟨j, ps'⟩, h1, h2⟩ := hd
        obtain ⟨rfl, rfl, rfl⟩ : ps' = ps ∧ a' = a ∧ b' = b := by cases h2; exact ⟨rfl, rfl, rfl⟩
        exact (dic a' b' hm rfl).run pins sh σ H Q I ⟨s, O, g, w, j, ps', sr, st, h1, h⟩
      · cases hd
    · cases hd
theorem isDget_cst {cn : Const} {jc : Nat} {pc pa : Pos} {m : Str} {args : List Expr} {kws : List Keyword} {s : Sl} : isDget G s (.Attribute (.Constant cn jc pc) m pa) args kws = none := by
  unfold isDget
  dsimp only
  split
  · split <;> rfl
  · rfl

/-- THE SOUNDNESS of expressions -/
theorem sound_e : ∀ (n : Nat) {X : Cx} {G : Cn} {k : Nat} {e : Expr}, Good X G k → chk n G.N X.env.scope e = true → PE X e (tE X.K n G e) ∧ (noIf e = true → PT X e (tT X.K n G e)) := by
  intro n
  induction n with
  | zero => intro X G k e gd hc; simp [chk] at hc
  | succ n ih =>
    intro X G k e gd hc
    have sub : ∀ {e : Expr}, chk n G.N X.env.scope e = true → PE X e (tE X.K n G e) := fun h => (ih gd h).1
    have subT : ∀ {e : Expr}, chk n G.N X.env.scope e = true → noIf e = true → PT X e (tT X.K n G e) := fun h => (ih gd h).2
    have dflt : ∀ {e : Expr}, PE X e (tE X.K (n + 1) G e) → (∀ whole, isTrue e X.env whole = (do let v ← whole; standAt e.pos; holding [v] (truthy v))) → PE X e (tE X.K (n + 1) G e) ∧ (noIf e = true → PT X e (tT X.K (n + 1) G e)) := fun h he => ⟨h, fun _ => st_val h he⟩
    cases e with
    | Constant cn j pos => exact dflt sv_const fun _ => rfl
    | Name x pos => exact dflt (sv_name gd hc) fun _ => rfl
    | BinOp a op b pos =>
      simp only [chk, Bool.and_eq_true] at hc
      exact dflt (sv_bin (sub hc.1) (sub hc.2)) fun _ => rfl
    | UnaryOp op a pos =>
      simp only [chk, Bool.and_eq_true] at hc
      have h1 : PE X (.UnaryOp op a pos) (tE X.K (n + 1) G (.UnaryOp op a pos)) := sv_un (sub hc.1)
      refine ⟨h1, fun _ => ?_⟩
      by_cases ho : op = .Not
      · subst ho
        exact st_not (subT hc.1 hc.2)
      · exact st_val h1 fun w => by cases op <;> first | rfl | exact absurd rfl ho
    | BoolOp op es pos =>
      simp only [chk, List.all_eq_true, Bool.and_eq_true] at hc
      exact ⟨sv_bool fun e he => sub (hc e he).1, fun _ => st_bool fun e he => subT (hc e he).1 (hc e he).2⟩
    | IfExp t a b pos =>
      simp only [chk, Bool.and_eq_true] at hc
      exact ⟨sv_if (subT hc.1.1.1 hc.1.1.2) (sub hc.1.2) (sub hc.2), fun h => by cases h⟩
    | Compare a ops bs pos =>
      simp only [chk, Bool.and_eq_true, List.all_eq_true] at hc
      match ops, bs, hc with
      | [op], [b], hc => exact ⟨sv_cmp1 gd.room (mark_of (hc.2 b (by simp))) (sub hc.1) (sub (hc.2 b (by simp))), fun _ => st_cmp1 gd.room (mark_of (hc.2 b (by simp))) (sub hc.1) (sub (hc.2 b (by simp)))⟩
      | [op, op'], [b, c], hc => exact ⟨sv_cmp2 gd.room (marks_of (hc.2 c (by simp))) (sub hc.1) (sub (hc.2 b (by simp))) (sub (hc.2 c (by simp))), fun _ => st_cmp2 gd.room (marks_of (hc.2 c (by simp))) (sub hc.1) (sub (hc.2 b (by simp))) (sub (hc.2 c (by simp)))⟩
      | [], _, _ => exact ⟨pe_bad fun _ _ => rfl, fun _ => ⟨fun pins sh σ H Q I ⟨s, O, g, w, sr, st, h⟩ => (h : False).elim⟩⟩
      | [_], [], _ => exact ⟨pe_bad fun _ _ => rfl, fun _ => ⟨fun pins sh σ H Q I ⟨s, O, g, w, sr, st, h⟩ => (h : False).elim⟩⟩
      | [_], _ :: _ :: _, _ => exact ⟨pe_bad fun _ _ => rfl, fun _ => ⟨fun pins sh σ H Q I ⟨s, O, g, w, sr, st, h⟩ => (h : False).elim⟩⟩
      | [_, _], [], _ => exact ⟨pe_bad fun _ _ => rfl, fun _ => ⟨fun pins sh σ H Q I ⟨s, O, g, w, sr, st, h⟩ => (h : False).elim⟩⟩
      | [_, _], [_], _ => exact ⟨pe_bad fun _ _ => rfl, fun _ => ⟨fun pins sh σ H Q I ⟨s, O, g, w, sr, st, h⟩ => (h : False).elim⟩⟩
      | [_, _], _ :: _ :: _ :: _, _ => exact ⟨pe_bad fun _ _ => rfl, fun _ => ⟨fun pins sh σ H Q I ⟨s, O, g, w, sr, st, h⟩ => (h : False).elim⟩⟩
      | _ :: _ :: _ :: _, _, _ => exact ⟨pe_bad fun _ _ => rfl, fun _ => ⟨fun pins sh σ H Q I ⟨s, O, g, w, sr, st, h⟩ => (h : False).elim⟩⟩
    | Tuple es x1 pos =>
      simp only [chk, List.all_eq_true] at hc
      exact dflt (sv_tup hc fun e he => sub (hc e he)) fun _ => rfl
    | List es pos =>
      simp only [chk, List.all_eq_true] at hc
      exact dflt (sv_lst hc fun e he => sub (hc e he)) fun _ => rfl
    | Dict ks vs pos => exact dflt (pe_bad fun s w => rfl) fun _ => rfl
    | FormattedValue a cv sp pos =>
      have hc : chk n G.N X.env.scope a = true := hc
      refine dflt ?_ fun _ => rfl
      cases sp with
      | some x => exact pe_bad fun s w => rfl
      | none =>
        by_cases h1 : cv = -1
        · subst h1
          exact sv_fmt (sub hc)
        · exact pe_bad fun s w => if_neg h1
    | JoinedStr es pos =>
      simp only [chk, List.all_eq_true] at hc
      exact dflt (sv_jst fun e he => sub (hc e he)) fun _ => rfl
    | Subscript a b pos =>
      refine dflt ?_ fun _ => rfl
      simp only [chk, Bool.and_eq_true] at hc
      by_cases hb : ∃ lo hi st p, b = .Slice lo hi st p
      · obtain ⟨lo, hi, st, p, rfl⟩ := hb
        obtain ⟨hc1, hc2⟩ := hc
        simp only [Bool.and_eq_true] at hc2
        have o1 : ∀ e, lo = some e → PE X e (tE X.K n G e) := fun e he => by subst he; exact sub (by simpa using hc2.1)
        have o2 : ∀ e, hi = some e → PE X e (tE X.K n G e) := fun e he => by subst he; exact sub (by simpa using hc2.2)
        cases st with
        | none => exact sv_sub (sv_slice (sub hc1) (sv_opt o1) (sv_opt o2)) fun _ _ _ z => by cases z
        | some st =>
          by_cases hn : lo = none ∧ hi = none ∧ isNeg1 st = true
          · obtain ⟨rfl, rfl, hn⟩ := hn
            unfold isNeg1 at hn
            split at hn
            · have := of_decide_eq_true hn
              subst this
              exact sv_sub (sv_rev (sub hc1)) fun _ _ _ z => by cases z
            · cases hn
          · refine sv_sub ⟨fun pins sh σ H Q I ⟨s, O, g, w, sr, st', h⟩ => ?_⟩ fun _ _ _ z => by cases z
            suffices hb : subW (ev n G s) a (.Slice lo hi (some st) p) w = .bad by
              rw [hb] at h
              exact (h : False).elim
            cases lo with
            | none =>
              cases hi with
              | none =>
                have : isNeg1 st = false := by
                  cases q : isNeg1 st with
                  | false => rfl
                  | true => exact absurd ⟨rfl, rfl, q⟩ hn
                simp only [subW, this]
                rfl
              | some h => rfl
            | some l => rfl
      · have hns : ∀ l h s p, b ≠ .Slice l h s p := fun l h s p e => hb ⟨l, h, s, p, e⟩
        have hc2 : chk n G.N X.env.scope b = true := by
          have := hc.2
          cases b <;> first | exact this | exact absurd rfl (hns _ _ _ _)
        refine sv_sub (sv_ix hns (sub hc.1) (sub hc2)) fun x px e hsl => ?_
        subst e
        have hn : nameB G.N X.env.scope x = true := by
          cases n with
          | zero => have := hc.1; simp [chk] at this
          | succ n' => exact hc.1
        exact sv_dix gd hn hsl (sub hc2)
    | Call g args kws pos =>
      refine dflt ?_ fun _ => rfl
      simp only [chk, Bool.and_eq_true, List.all_eq_true, List.isEmpty_iff] at hc
      obtain ⟨⟨hk, ha⟩, hg⟩ := hc
      subst hk
      cases g with
      | Name x px =>
        have hg : glB X.env.scope x = true := hg
        cases hd : G.dfn x with
        | true => exact sv_call gd hg hd (fun e he => (ha e he).1) fun e he => sub (ha e he).1
        | false =>
          cases hl : bltTab.lookup x with
          | none =>
            by_cases hW : (decide (x = "Watcher") && G.wt "Watcher.__init__") = true
            · have hW2 := hW
              simp only [Bool.and_eq_true, decide_eq_true_eq] at hW2
              obtain ⟨rfl, hwt⟩ := hW2
              refine (sv_make gd hg hwt (fun e he => (ha e he).1) fun e he => sub (ha e he).1).imp fun σ H Q ⟨s, O, g, w, sr, st, h⟩ => ⟨s, O, g, w, sr, st, ?_⟩
              have h : Pst X.K H O g (callW G (ev n G s) (.Name "Watcher" px) args [] w) (CV H Q) := h
              simp only [callW, hd, hl, hwt, decide_true, Bool.and_true, if_true, Bool.false_eq_true, if_false] at h
              exact h
            · refine pe_bad fun s w => ?_
              show callW G (ev n G s) (.Name x px) args [] w = .bad
              simp only [callW, hd, hl]
              rw [if_neg hW]
              rfl
          | some bl =>
            have red : ∀ s w, ev (n + 1) G s (.Call (.Name x px) args [] pos) w = bltW G (ev n G s) bl args w := fun s w => by
              show callW G (ev n G s) (.Name x px) args [] w = _
              simp [callW, hd, hl]
            have conv : ∀ {t : TE}, PE X (.Call (.Name x px) args [] pos) t → (∀ σ H Q, (∃ s O g w, SRep g O H σ s ∧ St3 X.K H O g w ∧ Pst X.K H O g (bltW G (ev n G s) bl args w) (CV H Q)) → t σ H Q) → PE X (.Call (.Name x px) args [] pos) (tE X.K (n + 1) G (.Call (.Name x px) args [] pos)) := fun pe f => pe.imp fun σ H Q ⟨s, O, g, w, sr, st, h⟩ => f σ H Q ⟨s, O, g, w, sr, st, by rw [red] at h; exact h⟩
            by_cases h1 : bl = .range
            · subst h1
              exact pe_bad fun s w => by rw [red]; rfl
            by_cases h2 : bl = .isinst
            · subst h2
              by_cases hargs : ∃ a t pt, args = [a, .Name t pt]
              · obtain ⟨a, t, pt, rfl⟩ := hargs
                have ht : chk n G.N X.env.scope (.Name t pt) = true := (ha _ (by simp)).1
                cases hix : idx G.N t with
                | none =>
                  have ht' : glB X.env.scope t = true := by
                    cases n with
                    | zero => simp [chk] at ht
                    | succ n' =>
                      have ht' : nameB G.N X.env.scope t = true := ht
                      unfold nameB at ht'
                      rw [hix] at ht'
                      exact ht'
                  refine conv (sv_isx gd hg hd hl ht' (fun e he => (ha e he).1) (sub (ha a (by simp)).1)) fun σ H Q ⟨s, O, g, w, sr, st, h⟩ => ⟨s, O, g, w, sr, st, ?_⟩
                  simp only [bltW, hix, Option.isNone_none, if_true] at h
                  exact h
                | some i =>
                  refine pe_no fun s w r w' hv => ?_
                  rw [red] at hv
                  simp [bltW, hix] at hv
              · refine pe_no fun s w r w' hv => ?_
                rw [red] at hv
                unfold bltW at hv
                dsimp only at hv
                split at hv
                · exact hargs ⟨_, _, _, rfl⟩
                · cases hv
            by_cases h3 : bl = .list
            · subst h3
              cases args with
              | nil => exact pe_bad fun s w => by rw [red]; rfl
              | cons e rest =>
                cases rest with
                | cons _ _ => exact pe_bad fun s w => by rw [red]; rfl
                | nil =>
                  obtain ⟨he1, he2⟩ := ha e (by simp)
                  cases hr : isRange G e with
                  | some as =>
                    obtain ⟨gn, pg, pr, rfl, g1, g2⟩ := isRange_some hr
                    have ha2 : ∀ e ∈ as, chk n G.N X.env.scope e = true := by simpa [argsOk, List.all_eq_true] using he2
                    have hgn : glB X.env.scope gn = true := by
                      cases n with
                      | zero => simp [chk] at he1
                      | succ n' =>
                        simp only [chk, Bool.and_eq_true] at he1
                        exact he1.2
                    refine conv (sv_listrg gd hg hd hl hgn g1 g2 ha2 fun e he => sub (ha2 e he)) fun σ H Q ⟨s, O, g, w, sr, st, h⟩ => ⟨s, O, g, w, sr, st, ?_⟩
                    simp only [bltW, hr] at h
                    exact h
                  | none =>
                    refine conv (sv_blt (as := []) gd hg hd hl h1 h2 (fun e he => (ha e he).1) fun e he => sub (ha e he).1) fun σ H Q ⟨s, O, g, w, sr, st, h⟩ => ⟨s, O, g, w, sr, st, ?_⟩
                    simp only [bltW, hr] at h
                    rw [evsW_one, bind_assoc]
                    exact h
            · cases args with
              | nil =>
                refine pe_bad fun s w => ?_
                rw [red]
                cases bl <;> first | rfl | exact absurd rfl h1 | exact absurd rfl h2 | exact absurd rfl h3
              | cons a as =>
                refine conv (sv_bltR gd hg hd hl h1 h2 (fun e he => (ha e he).1) fun e he => sub (ha e he).1) fun σ H Q ⟨s, O, g, w, sr, st, h⟩ => ⟨s, O, g, w, sr, st, ?_⟩
                cases bl <;> first | exact h | exact absurd rfl h1 | exact absurd rfl h2 | exact absurd rfl h3
      | Attribute o m pa =>
        cases o with
        | Name x px =>
          have hg : (nameB G.N X.env.scope x && (pa.endLine == pos.line)) = true := hg
          simp only [Bool.and_eq_true] at hg
          obtain ⟨hg1, hg2⟩ := hg
          cases n with
          | zero =>
            refine pe_bad fun s w => ?_
            show (match isDget G s (.Attribute (.Name x px) m pa) args [] with
              | some (ps, a, b) => dgetW (ev 0 G s) ps a b w
              | none => callW G (ev 0 G s) (.Attribute (.Name x px) m pa) args [] w) = _
            cases isDget G s (.Attribute (.Name x px) m pa) args [] <;> rfl
          | succ n' =>
            refine sv_callA (sv_atr gd (sub hg1) (fun e he => (ha e he).1) (fun e he => sub (ha e he).1) hg2) fun a b hm he => ?_
            subst hm he
            exact sv_dget gd hg1 (ha a (by simp)).1 (ha b (by simp)).1 (sub (ha a (by simp)).1) (sub (ha b (by simp)).1) hg2
        | Constant cn j pc =>
          cases cn with
          | str z =>
            have hg : (pa.endLine == pos.line) = true := hg
            cases n with
            | zero =>
              refine pe_bad fun s w => ?_
              show (match isDget G s (.Attribute (.Constant (.str z) j pc) m pa) args [] with
                | some (ps, a, b) => dgetW (ev 0 G s) ps a b w
                | none => callW G (ev 0 G s) (.Attribute (.Constant (.str z) j pc) m pa) args [] w) = _
              rw [isDget_cst]
              rfl
            | succ n' =>
              match args, ha with
              | [a], ha =>
                refine (sv_meth (fun _ => rfl) (sub (e := .Constant (.str z) j pc) rfl) (ha a (by simp)).1 (sub (ha a (by simp)).1) hg).imp fun σ H Q ⟨s, O, g, w, sr, st, h⟩ => ⟨s, O, g, w, sr, st, ?_⟩
                exact h
              | [], ha => exact pe_bad fun s w => rfl
              | b1 :: b2 :: r, ha =>
                refine pe_bad fun s w => ?_
                show (match isDget G s (.Attribute (.Constant (.str z) j pc) m pa) (b1 :: b2 :: r) [] with
                  | some (ps, a, b) => dgetW (ev (n' + 1) G s) ps a b w
                  | none => callW G (ev (n' + 1) G s) (.Attribute (.Constant (.str z) j pc) m pa) (b1 :: b2 :: r) [] w) = _
                rw [isDget_cst]
                rfl
          | _ => cases hg
        | _ => cases hg
      | _ => cases hg
    | ListComp elt gens scope pos =>
      refine dflt ?_ fun _ => rfl
      match gens, hc with
      | [⟨tg, iter, ifs, kk⟩], hc =>
        by_cases hk : kk = 0
        · subst hk
          have hc : (chk n G.N X.env.scope iter && argsOk (chk n G.N X.env.scope) iter && L2.blkC G.N X.env.scope scope (ownOf G.N scope) && chkTg G.N (ownOf G.N scope) (L2.relS scope X.env.scope) tg && (ifs.all fun e => chk n G.N (L2.relS scope X.env.scope) e && noIf e) && chk n G.N (L2.relS scope X.env.scope) elt) = true := hc
          simp only [Bool.and_eq_true, List.all_eq_true] at hc
          obtain ⟨⟨⟨⟨⟨c1, c2⟩, c3⟩, c4⟩, c5⟩, c6⟩ := hc
          have bo := blkOk_by c3
          have gb := fun s H C cl fp => gd.blk bo.kind s H C cl fp
          obtain ⟨t1, t2, t3⟩ := tgt_ok c4
          refine sv_comp gd ⟨?_, by rw [gd.N]; exact bo, fun s H C cl fp => ?_, fun s H C cl fp => ?_, fun s H C cl fp => ?_, folded_of c1, t1⟩ ?_
          · refine sv_iter gd c1 (sub c1) (fun as hr e he => ?_) fun gn pg as pr he => ?_
            · obtain ⟨gn, pg, pr, rfl, g1, g2⟩ := isRange_some hr
              have ha2 : ∀ e ∈ as, chk n G.N X.env.scope e = true := by simpa [argsOk, List.all_eq_true] using c2
              exact ⟨ha2 e he, sub (ha2 e he)⟩
            · subst he
              cases n with
              | zero => simp [chk] at c1
              | succ n' =>
                simp only [chk, Bool.and_eq_true] at c1
                exact c1.2
          · exact sv_tg (gb s H C cl fp).calm gd.nd gd.N (fun x px hx i hi => ⟨.inl (t2 x px hx i hi), .inr (t2 x px hx i hi)⟩) t3
          · exact sv_ifs fun e he => (ih (gb s H C cl fp) (c5 e he).1).2 (c5 e he).2
          · exact (ih (gb s H C cl fp) c6).1
          · intro x px e
            subst e
            cases n with
            | zero => simp [chk] at c1
            | succ n' => exact c1
        · refine pe_bad fun s w => ?_
          show compW G (ev n G) elt [⟨tg, iter, ifs, kk⟩] scope s w = .bad
          simp [compW, hk]
      | [], hc => simp [chk] at hc
      | _ :: _ :: _, hc => simp [chk] at hc
    | _ => simp [chk] at hc
end
end TM

namespace TM
open PySem PySem.Spec PyProof.Rows L2
variable [CNm]

/-! ### statements -/
/-- a frame's entry -/
structure En where
  H : Hp
  O : Os
  g : Gh
  W : Str → L2.St → Hp → Prop
/-- what is wished of an exception that leaves -/
def En.wx (E : En) : WX := fun cls d σ H => ∃ c, cls = .ref (CNm.nm c) ∧ d = none ∧ E.W c σ H
structure Frm (E : En) (s : Sl) (σ : L2.St) (H : Hp) (O : Os) (g : Gh) : Prop where
  sr : SRep g O H σ s
  ev : Evo E.H E.O E.g H O g
  fr : ∀ (i : Nat) (ds : List D) (a : Addr), s[i]? = some (some (.own ds)) → σ[i]? = some (some (.ref a)) → E.H a = none
  fd : ∀ (i : Nat) (ds : List D) (a : Addr), s[i]? = some (some (.bor ds)) → σ[i]? = some (some (.ref a)) → E.H a = none ∧ ∃ kvs, H a = some (.dT kvs)
/-- at slots s, later than H -/
def Fm (K : PySem.W.Frag) (E : En) (H : Hp) (O : Os) (g : Gh) (w : Wd) (s : Sl) (σ' : L2.St) (H' : Hp) (O' : Os) (g' : Gh) : Prop := Frm E s σ' H' O' g' ∧ St3 K H' O' g' w ∧ EvoS H O g H' O' g'
def Ps (K : PySem.W.Frag) (E : En) (H : Hp) (O : Os) (g : Gh) (m : R Out) (D : Ends) : Prop := match m with
  | .ok (.nxt s) w => ∀ σ' H' O' g', Fm K E H O g w s σ' H' O' g' → D.nx σ' H'
  | .ok (.brk s) w => ∀ σ' H' O' g', Fm K E H O g w s σ' H' O' g' → D.bk σ' H'
  | .ok (.cnt s) w => ∀ σ' H' O' g', Fm K E H O g w s σ' H' O' g' → D.ct σ' H'
  | .ok (.ret r) w => ∀ v H' O' g', Evo E.H E.O E.g H' O' g' → St3 K H' O' g' w → RepV g' O' E.H H' v r → D.rt v H'
  | .ok (.rs c s) w => ∀ σ' H' O' g', Fm K E H O g w s σ' H' O' g' → E.W c σ' H'
  | .exc _ _ => False
  | .bad => False
theorem Ps.later {K : PySem.W.Frag} {E : En} {H H' : Hp} {O O' : Os} {g g' : Gh} {m : R Out} {D : Ends} (h : Ps K E H O g m D) (e : EvoS H O g H' O' g') : Ps K E H' O' g' m D := by
  cases m with
  | ok o w =>
    cases o with
    | nxt s => exact fun σ2 H2 O2 g2 ⟨f, st, e2⟩ => h σ2 H2 O2 g2 ⟨f, st, e.trans e2⟩
    | brk s => exact fun σ2 H2 O2 g2 ⟨f, st, e2⟩ => h σ2 H2 O2 g2 ⟨f, st, e.trans e2⟩
    | cnt s => exact fun σ2 H2 O2 g2 ⟨f, st, e2⟩ => h σ2 H2 O2 g2 ⟨f, st, e.trans e2⟩
    | ret r => exact h
    | rs c s => exact fun σ2 H2 O2 g2 ⟨f, st, e2⟩ => h σ2 H2 O2 g2 ⟨f, st, e.trans e2⟩
  | exc c w => exact h
  | bad => exact h
def tX (K : PySem.W.Frag) (E : En) (f : Sl → Wd → R Out) : TS := fun D σ H => ∃ s O g w, Frm E s σ H O g ∧ St3 K H O g w ∧ Ps K E H O g (f s w) D
/-- a statement that answers by new slots alone -/
def PsN (K : PySem.W.Frag) (E : En) (H : Hp) (O : Os) (g : Gh) (m : R Sl) (Q : L2.St → Hp → Prop) : Prop := match m with
  | .ok s w => ∀ σ' H' O' g', Fm K E H O g w s σ' H' O' g' → Q σ' H'
  | .exc _ _ => False
  | .bad => False
theorem Ps.of_bind {K : PySem.W.Frag} {E : En} {H : Hp} {O : Os} {g : Gh} {m : R Sl} {D : Ends} (h : Ps K E H O g (m.bind fun s w => .ok (.nxt s) w) D) : PsN K E H O g m D.nx := by
  cases m with
  | ok s w => exact h
  | exc c w => exact h
  | bad => exact h
theorem PsN.later {K : PySem.W.Frag} {E : En} {H H' : Hp} {O O' : Os} {g g' : Gh} {m : R Sl} {Q : L2.St → Hp → Prop} (h : PsN K E H O g m Q) (e : EvoS H O g H' O' g') : PsN K E H' O' g' m Q := by
  cases m with
  | ok s w => exact fun σ2 H2 O2 g2 ⟨f, st, e2⟩ => h σ2 H2 O2 g2 ⟨f, st, e.trans e2⟩
  | exc c w => exact h
  | bad => exact h
/-- the frame at a later state of an expression -/
theorem Frm.evo {K : PySem.W.Frag} {E : En} {s : Sl} {σ : L2.St} {H H' : Hp} {O O' : Os} {g g' : Gh} {w : Wd} (f : Frm E s σ H O g) (st : St3 K H O g w) (e : Evo H O g H' O' g') : Frm E s σ H' O' g' := ⟨f.sr.evo st e, f.ev.trans e, f.fr, fun i ds a h1 h2 => by
    obtain ⟨q1, kvs, q2⟩ := f.fd i ds a h1 h2
    obtain ⟨v, k1, b, kvs2, ps, rfl, _, _, nw, _, _⟩ := f.sr.at' i _ h1
    rw [k1] at h2
    cases h2
    exact ⟨q1, kvs, e.keep _ _ q2 nw⟩⟩
theorem Frm.setV {E : En} {s : Sl} {σ : L2.St} {H : Hp} {O : Os} {g : Gh} {v : V} {d : D} (f : Frm E s σ H O g) (i : Nat) (r : Rep g O H v d) : Frm E (s.set i (some (.val d))) (σ.set i (some v)) H O g := by
  refine ⟨f.sr.setV i r, f.ev, fun j ds a h1 h2 => ?_, fun j ds a h1 h2 => ?_⟩
  · by_cases e : i = j
    · subst e
      have hl : i < s.length := by
        have := (List.getElem?_eq_some_iff.mp h1).1
        simpa using this
      rw [List.getElem?_set_self hl] at h1
      cases h1
    · rw [List.getElem?_set_ne e] at h1 h2
      exact f.fr j ds a h1 h2
  · by_cases e : i = j
    · subst e
      have hl : i < s.length := by
        have := (List.getElem?_eq_some_iff.mp h1).1
        simpa using this
      rw [List.getElem?_set_self hl] at h1
      cases h1
    · rw [List.getElem?_set_ne e] at h1 h2
      exact f.fd j ds a h1 h2
/-- a new own list in a slot: new since H0 (the slots stood then) -/
theorem Frm.setO {E : En} {s : Sl} {σ : L2.St} {H0 H : Hp} {O0 O : Os} {g0 g : Gh} {a : Addr} {ds : List D} (f : Frm E s σ H O g) (f0 : Frm E s σ H0 O0 g0) (i : Nat) (hO : O a) (hw : ¬ WA g a) (h0 : H0 a = none) (l : LAt g O H a ds) : Frm E (s.set i (some (.own ds))) (σ.set i (some (.ref a))) H O g := by
  have other : ∀ (j : Nat) (es : List D), s[j]? = some (some (.own es)) → σ[j]? ≠ some (some (.ref a)) := fun j es h1 h2 => by
    obtain ⟨v, k1, b, rfl, _, _, l⟩ := f0.sr.at' j _ h1
    rw [k1] at h2
    cases h2
    exact l.al h0
  have at1 : ∀ {j : Nat} {r : RV}, (s.set i (some (.own ds)))[j]? = some (some r) → (i = j ∧ r = .own ds ∧ (σ.set i (some (.ref a)))[j]? = some (some (.ref a))) ∨ (i ≠ j ∧ s[j]? = some (some r)) := fun {j r} h => by
    by_cases e : i = j
    · subst e
      have hl : i < s.length := by
        have := (List.getElem?_eq_some_iff.mp h).1
        simpa using this
      rw [List.getElem?_set_self hl] at h
      cases h
      exact .inl ⟨rfl, rfl, by rw [List.getElem?_set_self (by rw [← f.sr.len]; exact hl)]⟩
    · rw [List.getElem?_set_ne e] at h
      exact .inr ⟨e, h⟩
  refine ⟨⟨by rw [List.length_set, List.length_set]; exact f.sr.len, fun j r h => ?_, fun j1 j2 x d1 d2 hj h1 h2 h3 h4 => ?_, fun j1 j2 d1 d2 h1 h2 => f.sr.ad j1 j2 d1 d2 (bor_set (fun _ z => by cases z) h1) (bor_set (fun _ z => by cases z) h2)⟩, f.ev, fun j es x h1 h2 => ?_, fun j es x h1 h2 => ?_⟩
  · rcases at1 h with ⟨rfl, rfl, k⟩ | ⟨n, k⟩
    · exact ⟨_, k, a, rfl, hO, hw, l⟩
    · obtain ⟨v, k1, k2⟩ := f.sr.at' j r k
      exact ⟨v, by rw [List.getElem?_set_ne n]; exact k1, k2⟩
  · rcases at1 h1 with ⟨rfl, _, k⟩ | ⟨n, k⟩
    · rcases at1 h2 with ⟨rfl, _, k'⟩ | ⟨n', k'⟩
      · exact hj rfl
      · rw [k] at h3
        cases h3
        rw [List.getElem?_set_ne n'] at h4
        exact other j2 d2 k' h4
    · rcases at1 h2 with ⟨rfl, _, k'⟩ | ⟨n', k'⟩
      · rw [k'] at h4
        cases h4
        rw [List.getElem?_set_ne n] at h3
        exact other j1 d1 k h3
      · rw [List.getElem?_set_ne n] at h3
        rw [List.getElem?_set_ne n'] at h4
        exact f.sr.ap j1 j2 x d1 d2 hj k k' h3 h4
  · rcases at1 h1 with ⟨rfl, _, k⟩ | ⟨n, k⟩
    · rw [k] at h2
      cases h2
      exact f0.ev.back h0
    · rw [List.getElem?_set_ne n] at h2
      exact f.fr j es x k h2
  · rcases at1 h1 with ⟨rfl, z, k⟩ | ⟨n, k⟩
    · cases z
    · rw [List.getElem?_set_ne n] at h2
      exact f.fd j es x k h2
/-- the own list of slot k is changed -/
theorem Frm.mut {K : PySem.W.Frag} {E : En} {s : Sl} {σ : L2.St} {H : Hp} {O : Os} {g : Gh} {w : Wd} {a : Addr} {k : Nat} {ds es : List D} {vs us : List V} (f : Frm E s σ H O g) (st : St3 K H O g w) (hk : s[k]? = some (some (.own ds))) (hs : σ[k]? = some (some (.ref a))) (hO : O a) (hw : ¬ WA g a) (ha : H a = some (.lst vs)) (ru : Reps g O H us es) :
    Frm E (s.set k (some (.own es))) σ (upd H a (.lst us)) O g ∧ St3 K (upd H a (.lst us)) O g w ∧ EvoS H O g (upd H a (.lst us)) O g := by
  have h0 := f.fr k ds a hk hs
  have hl : k < s.length := (List.getElem?_eq_some_iff.mp hk).1
  have at1 : ∀ {j : Nat} {r : RV}, (s.set k (some (.own es)))[j]? = some (some r) → (k = j ∧ r = .own es) ∨ (k ≠ j ∧ s[j]? = some (some r)) := fun {j r} h => by
    by_cases e : k = j
    · subst e
      rw [List.getElem?_set_self hl] at h
      cases h
      exact .inl ⟨rfl, rfl⟩
    · rw [List.getElem?_set_ne e] at h
      exact .inr ⟨e, h⟩
  refine ⟨⟨⟨by rw [List.length_set]; exact f.sr.len, fun j r h => ?_, fun j1 j2 x d1 d2 hj h1 h2 h3 h4 => ?_, fun j1 j2 d1 d2 h1 h2 => f.sr.ad j1 j2 d1 d2 (bor_set (fun _ z => by cases z) h1) (bor_set (fun _ z => by cases z) h2)⟩, f.ev.mut h0, fun j es x h1 h2 => ?_, fun j es x h1 h2 => ?_⟩, st.mut ha hw, EvoS.mut hO⟩
  · rcases at1 h with ⟨rfl, rfl⟩ | ⟨n, q⟩
    · exact ⟨_, hs, a, rfl, hO, hw, us, upd_same, ru.mut ha hO⟩
    · obtain ⟨v, k1, k2⟩ := f.sr.at' j r q
      refine ⟨v, k1, ?_⟩
      cases r with
      | val d => exact Rep.mut ha hO k2
      | own xs =>
        obtain ⟨b, rfl, o, nw, vs', l1, l2⟩ := k2
        have nb : b ≠ a := fun z => by
          subst z
          exact f.sr.ap k j b ds xs n hk q hs k1
        exact ⟨b, rfl, o, nw, vs', by rw [upd_ne nb]; exact l1, l2.mut ha hO⟩
      | bor xs =>
        obtain ⟨b, kvs, ps, e1, e2, o, nw, rd, r⟩ := k2
        have nb : b ≠ a := fun z => by
          subst z
          rcases rd with rd | ⟨od, rd⟩ <;> (rw [ha] at rd; cases rd)
        refine ⟨b, kvs, ps, e1, e2, o, nw, ?_, r.mp fun _ _ z => z.mut ha hO⟩
        rcases rd with rd | ⟨od, rd⟩
        · exact .inl (by rw [upd_ne nb]; exact rd)
        · exact .inr ⟨od, by rw [upd_ne nb]; exact rd⟩
  · have q1 : ∃ d, s[j1]? = some (some (.own d)) := by
      rcases at1 h1 with ⟨rfl, _⟩ | ⟨_, q⟩
      · exact ⟨_, hk⟩
      · exact ⟨_, q⟩
    have q2 : ∃ d, s[j2]? = some (some (.own d)) := by
      rcases at1 h2 with ⟨rfl, _⟩ | ⟨_, q⟩
      · exact ⟨_, hk⟩
      · exact ⟨_, q⟩
    obtain ⟨d1', q1⟩ := q1
    obtain ⟨d2', q2⟩ := q2
    exact f.sr.ap j1 j2 x d1' d2' hj q1 q2 h3 h4
  · rcases at1 h1 with ⟨rfl, _⟩ | ⟨_, q⟩
    · rw [hs] at h2
      cases h2
      exact h0
    · exact f.fr j _ x q h2
  · rcases at1 h1 with ⟨_, z⟩ | ⟨_, q⟩
    · cases z
    · obtain ⟨q1, kvs, q2⟩ := f.fd j _ x q h2
      exact ⟨q1, kvs, by rw [upd_ne (fun z => by rw [z, ha] at q2; cases q2)]; exact q2⟩
/-- the own list of slot k is frozen -/
theorem Frm.rem {K : PySem.W.Frag} {E : En} {s : Sl} {σ : L2.St} {H : Hp} {O : Os} {g : Gh} {w : Wd} {a : Addr} {k : Nat} {ds : List D} (wE : Wf E.H E.O E.g) (f : Frm E s σ H O g) (st : St3 K H O g w) (hk : s[k]? = some (some (.own ds))) (hs : σ[k]? = some (some (.ref a))) (hw : ¬ WA g a) (l : LAt g O H a ds) :
    Frm E (s.set k (some (.val (.list ds)))) σ H (remO O a) g ∧ St3 K H (remO O a) g w ∧ EvoS H O g H (remO O a) g ∧ Rep g (remO O a) H (.ref a) (.list ds) := by
  have h0 := f.fr k ds a hk hs
  have hl : k < s.length := (List.getElem?_eq_some_iff.mp hk).1
  have at1 : ∀ {j : Nat} {r : RV}, (s.set k (some (.val (.list ds))))[j]? = some (some r) → (k = j ∧ r = .val (.list ds)) ∨ (k ≠ j ∧ s[j]? = some (some r)) := fun {j r} h => by
    by_cases e : k = j
    · subst e
      rw [List.getElem?_set_self hl] at h
      cases h
      exact .inl ⟨rfl, rfl⟩
    · rw [List.getElem?_set_ne e] at h
      exact .inr ⟨e, h⟩
  refine ⟨⟨⟨by rw [List.length_set]; exact f.sr.len, fun j r h => ?_, fun j1 j2 x d1 d2 hj h1 h2 h3 h4 => ?_, fun j1 j2 d1 d2 h1 h2 => f.sr.ad j1 j2 d1 d2 (bor_set (fun _ z => by cases z) h1) (bor_set (fun _ z => by cases z) h2)⟩, f.ev.rem wE h0, fun j es x h1 h2 => ?_, fun j es x h1 h2 => ?_⟩, st.rem hw, EvoS.rem, l.rep⟩
  · rcases at1 h with ⟨rfl, rfl⟩ | ⟨n, q⟩
    · exact ⟨_, hs, l.rep⟩
    · obtain ⟨v, k1, k2⟩ := f.sr.at' j r q
      refine ⟨v, k1, ?_⟩
      cases r with
      | val d => exact Rep.anti (fun _ z => z.1) k2
      | own xs =>
        obtain ⟨b, rfl, o, nw, vs', l1, l2⟩ := k2
        have nb : b ≠ a := fun z => by
          subst z
          exact f.sr.ap k j b ds xs n hk q hs k1
        exact ⟨b, rfl, ⟨o, nb⟩, nw, vs', l1, l2.anti fun _ z => z.1⟩
      | bor xs =>
        obtain ⟨b, kvs, ps, e1, e2, o, nw, rd, r⟩ := k2
        obtain ⟨vs0, l1, _⟩ := l
        have nb : b ≠ a := fun z => by
          subst z
          rcases rd with rd | ⟨od, rd⟩ <;> (rw [l1] at rd; cases rd)
        exact ⟨b, kvs, ps, e1, e2, ⟨o, nb⟩, nw, rd, r.mp fun _ _ z => z.anti fun _ z => z.1⟩
  · rcases at1 h1 with ⟨_, q⟩ | ⟨_, q1⟩
    · cases q
    · rcases at1 h2 with ⟨_, q⟩ | ⟨_, q2⟩
      · cases q
      · exact f.sr.ap j1 j2 x d1 d2 hj q1 q2 h3 h4
  · rcases at1 h1 with ⟨_, q⟩ | ⟨_, q⟩
    · cases q
    · exact f.fr j es x q h2
  · rcases at1 h1 with ⟨_, q⟩ | ⟨_, q⟩
    · cases q
    · exact f.fd j es x q h2
/-- a new dict in a slot -/
theorem Frm.newD {K : PySem.W.Frag} {E : En} {s : Sl} {σ : L2.St} {H : Hp} {O : Os} {g : Gh} {w : Wd} {p : Addr} (f : Frm E s σ H O g) (st : St3 K H O g w) (i : Nat) (hn : noDct s = true) (hp : H p = none) :
    Frm E (s.set i (some (.bor []))) (σ.set i (some (.ref p))) (upd H p (.dT [])) (addO O p) g ∧ St3 K (upd H p (.dT [])) (addO O p) g w ∧ EvoS H O g (upd H p (.dT [])) (addO O p) g := by
  have e := Evo.newOwn (o := .dT []) st.wf hp
  have st1 : St3 K (upd H p (.dT [])) (addO O p) g w := ⟨⟨fun a h => .inl (st.wf.wao a h), fun a h => by
      by_cases z : a = p
      · rw [z, upd_same]; simp
      · rw [upd_ne z]; exact st.wf.oal a (h.elim id fun q => absurd q z), fun a z vs => by
      by_cases q : a = p
      · rw [q, upd_same]; intro e; cases e
      · rw [upd_ne q]; exact st.wf.ot a (z.elim id fun e => absurd e q) vs⟩, st.wr.keep (upd_keep hp)⟩
  have f1 := f.evo st e
  have none_ : ∀ (j : Nat) (ds : List D), s[j]? ≠ some (some (.bor ds)) := fun j ds h => by
    have := List.all_eq_true.mp hn _ (List.mem_of_getElem? h)
    cases this
  have at1 : ∀ {j : Nat} {r : RV}, (s.set i (some (.bor [])))[j]? = some (some r) → (i = j ∧ r = .bor [] ∧ (σ.set i (some (.ref p)))[j]? = some (some (.ref p))) ∨ (i ≠ j ∧ s[j]? = some (some r)) := fun {j r} h => by
    by_cases e : i = j
    · subst e
      have hl : i < s.length := by
        have := (List.getElem?_eq_some_iff.mp h).1
        simpa using this
      rw [List.getElem?_set_self hl] at h
      cases h
      exact .inl ⟨rfl, rfl, by rw [List.getElem?_set_self (by rw [← f.sr.len]; exact hl)]⟩
    · rw [List.getElem?_set_ne e] at h
      exact .inr ⟨e, h⟩
  refine ⟨⟨⟨by rw [List.length_set, List.length_set]; exact f.sr.len, fun j r h => ?_, fun j1 j2 x d1 d2 hj h1 h2 h3 h4 => ?_, fun j1 j2 d1 d2 h1 h2 => ?_⟩, f1.ev, fun j es x h1 h2 => ?_, fun j es x h1 h2 => ?_⟩, st1, e.s st.wf⟩
  · rcases at1 h with ⟨rfl, rfl, k⟩ | ⟨n, k⟩
    · exact ⟨_, k, p, [], [], rfl, rfl, .inr rfl, (st.wf.fresh hp).2, .inl upd_same, .nil⟩
    · obtain ⟨v, k1, k2⟩ := f1.sr.at' j r k
      exact ⟨v, by rw [List.getElem?_set_ne n]; exact k1, k2⟩
  · rcases at1 h1 with ⟨rfl, z, k⟩ | ⟨n, k⟩
    · cases z
    · rcases at1 h2 with ⟨rfl, z, k'⟩ | ⟨n', k'⟩
      · cases z
      · rw [List.getElem?_set_ne n] at h3
        rw [List.getElem?_set_ne n'] at h4
        exact f.sr.ap j1 j2 x d1 d2 hj k k' h3 h4
  · rcases at1 h1 with ⟨rfl, _, _⟩ | ⟨n, k⟩
    · rcases at1 h2 with ⟨rfl, _, _⟩ | ⟨n', k'⟩
      · rfl
      · exact absurd k' (none_ _ _)
    · exact absurd k (none_ _ _)
  · rcases at1 h1 with ⟨rfl, z, k⟩ | ⟨n, k⟩
    · cases z
    · rw [List.getElem?_set_ne n] at h2
      exact f.fr j es x k h2
  · rcases at1 h1 with ⟨rfl, _, k⟩ | ⟨n, k⟩
    · rw [k] at h2
      cases h2
      exact ⟨f.ev.back hp, [], upd_same⟩
    · exact absurd k (none_ _ _)
/-- the dict of slot k is changed -/
theorem Frm.putD {K : PySem.W.Frag} {E : En} {s : Sl} {σ : L2.St} {H : Hp} {O : Os} {g : Gh} {w : Wd} {a : Addr} {k : Nat} {ds : List D} {ps' : Dct} {kvs kvs' : List (List Key × V)} (f : Frm E s σ H O g) (st : St3 K H O g w) (hk : s[k]? = some (some (.bor ds))) (hs : σ[k]? = some (some (.ref a))) (hO : O a) (hw : ¬ WA g a) (ha : H a = some (.dT kvs)) (r : DRep g O H kvs' ps') :
    Frm E (s.set k (some (.bor (ps'.map encP)))) σ (upd H a (.dT kvs')) O g ∧ St3 K (upd H a (.dT kvs')) O g w ∧ EvoS H O g (upd H a (.dT kvs')) O g := by
  obtain ⟨h0, _⟩ := f.fd k ds a hk hs
  have hl : k < s.length := (List.getElem?_eq_some_iff.mp hk).1
  have at1 : ∀ {j : Nat} {r : RV}, (s.set k (some (.bor (ps'.map encP))))[j]? = some (some r) → (k = j ∧ r = .bor (ps'.map encP)) ∨ (k ≠ j ∧ s[j]? = some (some r)) := fun {j r} h => by
    by_cases e : k = j
    · subst e
      rw [List.getElem?_set_self hl] at h
      cases h
      exact .inl ⟨rfl, rfl⟩
    · rw [List.getElem?_set_ne e] at h
      exact .inr ⟨e, h⟩
  refine ⟨⟨⟨by rw [List.length_set]; exact f.sr.len, fun j r h => ?_, fun j1 j2 x d1 d2 hj h1 h2 h3 h4 => ?_, fun j1 j2 d1 d2 h1 h2 => ?_⟩, f.ev.mut h0, fun j es x h1 h2 => ?_, fun j es x h1 h2 => ?_⟩, st.updD ha DO.dt DO.dt hw, EvoS.mut hO⟩
  · rcases at1 h with ⟨rfl, rfl⟩ | ⟨n, q⟩
    · exact ⟨_, hs, a, kvs', ps', rfl, rfl, hO, hw, .inl upd_same, r.mp fun _ _ z => z.updO ha DO.dt.nt hO⟩
    · obtain ⟨v, k1, k2⟩ := f.sr.at' j r q
      refine ⟨v, k1, ?_⟩
      cases r with
      | val d => exact Rep.updO ha DO.dt.nt hO k2
      | own xs =>
        obtain ⟨b, rfl, o, nw, vs', l1, l2⟩ := k2
        exact ⟨b, rfl, o, nw, vs', by rw [upd_ne (fun z => by rw [z, ha] at l1; cases l1)]; exact l1, l2.updO ha DO.dt.nt hO⟩
      | bor xs => exact absurd (f.sr.ad k j _ _ hk q) n
  · rcases at1 h1 with ⟨rfl, z⟩ | ⟨_, q1⟩
    · cases z
    · rcases at1 h2 with ⟨rfl, z⟩ | ⟨_, q2⟩
      · cases z
      · exact f.sr.ap j1 j2 x d1 d2 hj q1 q2 h3 h4
  · have b1 : ∃ d, s[j1]? = some (some (.bor d)) := by
      rcases at1 h1 with ⟨rfl, _⟩ | ⟨_, q⟩
      · exact ⟨_, hk⟩
      · exact ⟨_, q⟩
    have b2 : ∃ d, s[j2]? = some (some (.bor d)) := by
      rcases at1 h2 with ⟨rfl, _⟩ | ⟨_, q⟩
      · exact ⟨_, hk⟩
      · exact ⟨_, q⟩
    obtain ⟨_, b1⟩ := b1
    obtain ⟨_, b2⟩ := b2
    exact f.sr.ad j1 j2 _ _ b1 b2
  · rcases at1 h1 with ⟨_, z⟩ | ⟨_, q⟩
    · cases z
    · exact f.fr j _ x q h2
  · rcases at1 h1 with ⟨rfl, _⟩ | ⟨n, q⟩
    · rw [hs] at h2
      cases h2
      exact ⟨h0, kvs', upd_same⟩
    · exact absurd (f.sr.ad k j _ _ hk q) n
theorem isOwn_some {G : Cn} {e : Expr} {s : Sl} {j : Nat} {ds : List D} (h : isOwn G e s = some (j, ds)) : ∃ y p, e = .Name y p ∧ idx G.N y = some j ∧ s[j]? = some (some (.own ds)) := by
  unfold isOwn at h
  split at h
  · split at h
    · split at h
      · rename_i h1 _ _ h2
        cases h
        exact ⟨_, _, rfl, h1, h2⟩
      · cases h
    · cases h
  · cases h

theorem lcok_of {X : Cx} {G : Cn} {n k : Nat} {elt tg iter : Expr} {ifs : List Expr} {scope : Scope} {kk : Int} {pos : Pos} (gd : Good X G k) (hc : chk (n + 1) G.N X.env.scope (.ListComp elt [⟨tg, iter, ifs, kk⟩] scope pos) = true) : LcOk X G n elt tg iter ifs scope := by
  have hc : (chk n G.N X.env.scope iter && argsOk (chk n G.N X.env.scope) iter && L2.blkC G.N X.env.scope scope (ownOf G.N scope) && chkTg G.N (ownOf G.N scope) (L2.relS scope X.env.scope) tg && (ifs.all fun e => chk n G.N (L2.relS scope X.env.scope) e && noIf e) && chk n G.N (L2.relS scope X.env.scope) elt) = true := hc
  simp only [Bool.and_eq_true, List.all_eq_true] at hc
  obtain ⟨⟨⟨⟨⟨c1, c2⟩, c3⟩, c4⟩, c5⟩, c6⟩ := hc
  have bo := blkOk_by c3
  have gb := fun s H C cl fp => gd.blk bo.kind s H C cl fp
  obtain ⟨t1, t2, t3⟩ := tgt_ok c4
  refine ⟨?_, by rw [gd.N]; exact bo, fun s H C cl fp => ?_, fun s H C cl fp => ?_, fun s H C cl fp => ?_, folded_of c1, t1⟩
  · refine sv_iter gd c1 (sound_e n gd c1).1 (fun as hr e he => ?_) fun gn pg as pr he => ?_
    · obtain ⟨gn, pg, pr, rfl, g1, g2⟩ := isRange_some hr
      have ha2 : ∀ e ∈ as, chk n G.N X.env.scope e = true := by simpa [argsOk, List.all_eq_true] using c2
      exact ⟨ha2 e he, (sound_e n gd (ha2 e he)).1⟩
    · subst he
      cases n with
      | zero => simp [chk] at c1
      | succ n' =>
        simp only [chk, Bool.and_eq_true] at c1
        exact c1.2
  · exact sv_tg (gb s H C cl fp).calm gd.nd gd.N (fun x px hx i hi => ⟨.inl (t2 x px hx i hi), .inr (t2 x px hx i hi)⟩) t3
  · exact sv_ifs fun e he => (sound_e n (gb s H C cl fp) (c5 e he).1).2 (c5 e he).2
  · exact (sound_e n (gb s H C cl fp) c6).1

section
variable {X : Cx} {G : Cn} {E : En} {n k : Nat} {pos p : Pos} {e a b c t : Expr}
/-- what a context of statements has more -/
structure GoodS (X : Cx) (G : Cn) (k : Nat) (E : En) : Prop extends Good X G k where
  po : PassesOwn (model X.prog X.w) X.A X.env X.xe
  wE : Wf E.H E.O E.g
  fn : ∀ x, X.fn x = true
  tk : Takes X E.wx
  stk : X.stack = X.env :: X.outer
  frm : X.env.frame = some X.env.locals
  ex0 : X.ex = []
/-! #### assignments -/
theorem frm_val (gd : GoodS X G k E) {s : Sl} {σ : L2.St} {H H1 : Hp} {O O1 : Os} {g g1 : Gh} {w w1 : Wd} {i : Nat} {x : Str} {rv : RV} {v : V} {Q : L2.St → Hp → Prop} (f : Frm E s σ H O g) (st : St3 X.K H O g w) (e1 : Evo H O g H1 O1 g1) (s1 : St3 X.K H1 O1 g1 w1) (r : RepV g1 O1 H H1 v rv) (h : PsN X.K E H O g (asgN G i x rv s w1) Q) : Q (σ.set i (some v)) H1 := by
  unfold asgN at h
  split at h
  · exact h _ _ _ _ ⟨(f.evo st e1).setV i r, s1, e1.s st.wf⟩
  · rename_i ds
    obtain ⟨a, rfl, o, nw, f0, l⟩ := r
    split at h
    · exact h _ _ _ _ ⟨(f.evo st e1).setO f i o nw f0 l, s1, e1.s st.wf⟩
    · have e2 := e1.rem st.wf f0
      exact h _ _ _ _ ⟨(f.evo st e2).setV i l.rep, s1.rem nw, e2.s st.wf⟩
  · exact h.elim
theorem sole_name {x : Str} {px : Pos} {l : Nat} : swapsWith a (some (.Name x px)) l X.env = pure false ∨ ∃ elt gs sc p, (a = .ListComp elt gs sc p ∨ a = .SetComp elt gs sc p) ∨ ∃ v, a = .DictComp elt v gs sc p := by
  cases a <;> first | exact .inl rfl | exact .inr ⟨_, _, _, _, .inl (.inl rfl)⟩ | exact .inr ⟨_, _, _, _, .inl (.inr rfl)⟩ | exact .inr ⟨_, _, _, _, .inr ⟨_, rfl⟩⟩
def stLoc (X : Cx) (x : Str) : Prop := Loc X.env.scope x
theorem ss_name {x : Str} {px : Pos} (gd : GoodS X G k E) (hx : ∀ i, idx G.N x = some i → Loc X.env.scope x) (hc : chk (n + 1) G.N X.env.scope e = true) :
    PS X (.Assign [.Name x px] e pos) (tX X.K E fun s w => (asgW G (ev (n + 1) G) (.Name x px) e s w).bind fun s w => .ok (.nxt s) w) := by
  cases hi : idx G.N x with
  | none => exact ⟨fun pins sh σ H D I ⟨s, O, g, w, f, st, h⟩ => by
      simp only [asgW, hi] at h
      exact h.elim⟩
  | some i =>
    have hN : X.N[i]? = some x := by rw [gd.N]; exact idx_get hi
    have pe := (sound_e (n + 1) gd.toGood hc).1
    by_cases hnew : isDnew e = true
    · obtain ⟨pd, rfl⟩ : ∃ pd, e = .Dict [] [] pd := by
        unfold isDnew at hnew
        split at hnew
        · exact ⟨_, rfl⟩
        · cases hnew
      refine (ps_set gd.nd hN (hx i hi) pe_dnewT rfl (.inl (gd.fn x))).imp fun D σ H ⟨s, O, g, w, f, st, h⟩ => ?_
      have h := h.of_bind
      simp only [asgW, hi, hnew, if_true] at h
      intro p hp
      cases hnd : noDct s with
      | false => rw [hnd] at h; exact (h : False).elim
      | true =>
        rw [hnd] at h
        obtain ⟨f2, s2, e2⟩ := f.newD st i hnd hp
        exact h _ _ _ _ ⟨f2, s2, e2⟩
    have main : ∀ {D : Ends} {σ : L2.St} {H : Hp} {s : Sl} {O : Os} {g : Gh} {w : Wd}, isOwn G e s = none → Frm E s σ H O g → St3 X.K H O g w → Ps X.K E H O g ((asgW G (ev (n + 1) G) (.Name x px) e s w).bind fun s w => .ok (.nxt s) w) D → ∃ s O g w, SRep g O H σ s ∧ St3 X.K H O g w ∧ isDcomp G e s = false ∧ Pst X.K H O g (ev (n + 1) G s e w) (CV H fun v H1 => D.nx (σ.set i (some v)) H1) := fun {D σ H s O g w} ho f st h => by
      have h := h.of_bind
      simp only [asgW, hi, ho, if_neg hnew] at h
      cases hdc : isDcomp G e s with
      | true => rw [hdc] at h; exact (h : False).elim
      | false =>
      rw [hdc, if_neg Bool.false_ne_true] at h
      refine ⟨s, O, g, w, f.sr, st, hdc, ?_⟩
      cases hv : ev (n + 1) G s e w with
      | exc c w1 => rw [hv] at h; exact h.elim
      | bad => rw [hv] at h; exact h.elim
      | ok rv w1 =>
        rw [hv] at h
        intro H1 O1 g1 e1 s1 v r
        exact frm_val gd f st e1 s1 r h
    have plain : ∀ (hs : swapsWith e (some (.Name x px)) pos.line X.env = pure false), PS X (.Assign [.Name x px] e pos) (tX X.K E fun s w => (asgW G (ev (n + 1) G) (.Name x px) e s w).bind fun s w => .ok (.nxt s) w) := fun hs => by
      refine ⟨fun pins sh σ H D I ⟨s, O, g, w, f, st, h⟩ => ?_⟩
      cases ho : isOwn G e s with
      | none =>
        obtain ⟨s', O', g', w', q1, q2, _, q3⟩ := main ho f st h
        exact (ps_set gd.nd hN (hx i hi) pe hs (.inl (gd.fn x))).run pins sh σ H D I ⟨s', O', g', w', q1, q2, q3⟩
      | some jd =>
        obtain ⟨j, ds⟩ := jd
        obtain ⟨y, py, rfl, hj, hsj⟩ := isOwn_some ho
        have hv : nameB G.N X.env.scope y = true := hc
        unfold nameB at hv
        rw [hj] at hv
        obtain ⟨v1, v2, v3⟩ := vis_of hv
        refine (ps_set gd.nd hN (hx i hi) (pe_var (i := j) (by rw [gd.N]; exact idx_get hj) v1 v2 v3) hs (.inl (gd.fn x))).run pins sh σ H D I ?_
        have h := h.of_bind
        simp only [asgW, hi, ho, if_neg hnew, show isDcomp G (.Name y py) s = false from rfl, if_neg Bool.false_ne_true] at h
        obtain ⟨v, k1, aa, rfl, o, nw, l⟩ := f.sr.at' j _ hsj
        obtain ⟨f2, s2, e2, r2⟩ := f.rem gd.wE st hsj k1 nw l
        exact ⟨_, k1, h _ _ _ _ ⟨f2.setV i r2, s2, e2⟩⟩
    by_cases hl : ∃ elt gs sc q, e = .ListComp elt gs sc q
    · obtain ⟨elt, gens, sc, q, rfl⟩ := hl
      cases hb : (X.env.blockKind == .function && X.env.kindOf x == some .local && px.line == (Expr.ListComp elt gens sc q).pos.line && !(sc.names.any fun (nn, kk) => nn == x && (kk == .local || kk == .cell))) with
      | false => exact plain (by unfold swapsWith; show pure _ = _; rw [hb])
      | true =>
        have hsw : swapsWith (.ListComp elt gens sc q) (some (.Name x px)) pos.line X.env = pure true := by unfold swapsWith; show pure _ = _; rw [hb]
        have hg1 : ∃ tg iter ifs kk, gens = [⟨tg, iter, ifs, kk⟩] := by
          match gens, hc with
          | [⟨tg, iter, ifs, kk⟩], hc => exact ⟨_, _, _, _, rfl⟩
          | [], hc => simp [chk] at hc
          | _ :: _ :: _, hc => simp [chk] at hc
        obtain ⟨tg, iter, ifs, kk, rfl⟩ := hg1
        by_cases hk : kk = 0
        · subst hk
          have hyl : X.env.scope.names.lookup x = some .local := by
            simp only [Bool.and_eq_true, beq_iff_eq] at hb
            exact hb.1.1.2
          have L := lcok_of gd.toGood hc
          refine ⟨fun pins sh σ H D I ⟨s, O, g, w, f, st, h⟩ => ?_⟩
          have ho : isOwn G (.ListComp elt [⟨tg, iter, ifs, 0⟩] sc q) s = none := rfl
          exact (ps_setLc gd.calm gd.nd hN hyl hsw L.hi L.ok L.hg L.ht L.he L.hs).run pins sh σ H D I (lc_read rfl L.htg (by
            obtain ⟨s', O', g', w', q1, q2, q4, q3⟩ := main ho f st h
            refine ⟨s', O', g', w', q1, q2, ?_, q3⟩
            have q4 : (isDct G iter s').isSome = false := q4
            cases hq : isDct G iter s' with
            | none => rfl
            | some z => rw [hq] at q4; cases q4))
        · refine ⟨fun pins sh σ H D I ⟨s, O, g, w, f, st, h⟩ => ?_⟩
          exfalso
          have ho : isOwn G (.ListComp elt [⟨tg, iter, ifs, kk⟩] sc q) s = none := rfl
          have h := h.of_bind
          simp only [asgW, hi, ho, if_neg hnew] at h
          have hb : ev (n + 1) G s (.ListComp elt [⟨tg, iter, ifs, kk⟩] sc q) w = .bad := by
            show compW G (ev n G) elt [⟨tg, iter, ifs, kk⟩] sc s w = .bad
            simp [compW, hk]
          rw [hb] at h
          cases hdc : isDcomp G (.ListComp elt [⟨tg, iter, ifs, kk⟩] sc q) s with
          | true => rw [hdc] at h; exact h
          | false => rw [hdc] at h; exact h
    · refine plain ?_
      rcases sole_name (X := X) (a := e) (x := x) (px := px) (l := pos.line) with h | ⟨elt, gs, sc, q, (rfl | rfl) | ⟨v, rfl⟩⟩
      · exact h
      · exact absurd ⟨elt, gs, sc, q, rfl⟩ hl
      · simp [chk] at hc
      · simp [chk] at hc
end
end TM

namespace TM
open PySem PySem.Spec PyProof.Rows L2
variable [CNm]

def isStar : Expr → Bool
  | .Starred _ _ => true
  | _ => false
def swNames (sc : Scope) (ts : List Expr) : List Str := ts.filterMap fun e => match e with
    | .Name id pos => if sc.names.lookup id == some .local && pos.line == (ts.head?.map (·.pos.line)).getD 0 then some id else none
    | _ => none
def swapP (sc : Scope) (ts vs : List Expr) : Option (Option (List Str)) :=
  bif (!(ts.length == 2 || ts.length == 3) || vs.length != ts.length) then some none
  else bif vs.any isStar then some none
  else bif ((swNames sc ts).length != ts.length || ((swNames sc ts).eraseDups.length != (swNames sc ts).length)) then some none
  else bif vs.all (foldedForSure 8) then some none
  else bif vs.all (constantsAlone 8) then none
  else some (some (swNames sc ts))
theorem swap_eq {ts vs : List Expr} {k k2 : Nat} {p p2 : Pos} {env : Env} {r : Option (List Str)} (hk : env.scope.kind = .function) (h : swapP env.scope ts vs = some r) : swappedStores [.Tuple ts k p] (.Tuple vs k2 p2) env = pure r := by
  unfold swapP at h
  unfold swappedStores
  have hb : (env.blockKind != .function) = false := by
    unfold Env.blockKind
    rw [hk]
    rfl
  dsimp only
  rw [hb, Bool.or_false]
  cases h1 : (!(ts.length == 2 || ts.length == 3) || vs.length != ts.length) with
  | true =>
    rw [h1] at h
    cases h
    rfl
  | false =>
    rw [h1] at h
    simp only [cond_false] at h
    refine (if_neg Bool.false_ne_true).trans ?_
    cases h2 : vs.any isStar with
    | true =>
      rw [h2] at h
      cases h
      exact if_pos h2
    | false =>
      rw [h2] at h
      simp only [cond_false] at h
      refine (if_neg (fun q => ?_)).trans ?_
      · have q' : vs.any isStar = true := q
        rw [h2] at q'
        cases q'
      cases h3 : ((swNames env.scope ts).length != ts.length || ((swNames env.scope ts).eraseDups.length != (swNames env.scope ts).length)) with
      | true =>
        rw [h3] at h
        cases h
        exact if_pos h3
      | false =>
        rw [h3] at h
        simp only [cond_false] at h
        refine (if_neg (fun q => ?_)).trans ?_
        · have q' : ((swNames env.scope ts).length != ts.length || ((swNames env.scope ts).eraseDups.length != (swNames env.scope ts).length)) = true := q
          rw [h3] at q'
          cases q'
        cases h4 : vs.all (foldedForSure 8) with
        | true => rw [h4] at h; cases h; rfl
        | false =>
          rw [h4] at h
          simp only [cond_false] at h
          cases h5 : vs.all (constantsAlone 8) with
          | true => rw [h5] at h; cases h
          | false => rw [h5] at h; cases h; rfl

/-! ### stores -/
def locB (sc : Scope) (x : Str) : Bool := decide (sc.names.lookup x = some .local) || decide (sc.names.lookup x = some .cell)
def notSl : Expr → Bool
  | .Slice _ _ _ _ => false
  | _ => true
def chkSt (n : Nat) (N : List Str) (sc : Scope) (t : Expr) : Bool := match t with
  | .Name x _ => locB sc x
  | .Subscript (.Name x _) b _ => nameB N sc x && chk n N sc b && notSl b
  | _ => false
theorem loc_of {sc : Scope} {x : Str} (h : locB sc x = true) : Loc sc x := by
  unfold locB at h
  simp only [Bool.or_eq_true, decide_eq_true_eq] at h
  exact h
section
variable {X : Cx} {G : Cn} {E : En} {n k : Nat} {pos p : Pos} {e a b c t : Expr}
def tSt (K : PySem.W.Frag) (E : En) (n : Nat) (G : Cn) (t : Expr) : TG := fun v σ H Q => ∃ s O g w d, Frm E s σ H O g ∧ St3 K H O g w ∧ Rep g O H v d ∧ PsN K E H O g (stT G (ev n G) t d s w) Q
def tSts (K : PySem.W.Frag) (E : En) (n : Nat) (G : Cn) (ts : List Expr) : TGs := fun vs σ H Q => ∃ s O g w ds, Frm E s σ H O g ∧ St3 K H O g w ∧ Reps g O H vs ds ∧ PsN K E H O g (stTs G (ev n G) ts ds s w) Q
theorem sg_st (gd : GoodS X G k E) (hc : chkSt n G.N X.env.scope t = true) : PG X t (tSt X.K E n G t) := by
  unfold chkSt at hc
  split at hc
  · rename_i x px
    cases hi : idx G.N x with
    | none => exact ⟨fun pins sh σ H v u Q I r ⟨s, O, g, w, d, f, st, rv, h⟩ => by
        simp only [stT, hi] at h
        exact h.elim⟩
    | some i =>
      refine (pg_name (i := i) gd.nd (by rw [gd.N]; exact idx_get hi) (loc_of hc) (.inl (gd.fn x))).imp fun v σ H Q ⟨s, O, g, w, d, f, st, rv, h⟩ => ?_
      simp only [stT, hi] at h
      exact h _ _ _ _ ⟨f.setV i rv, st, EvoS.refl⟩
  · rename_i x px b pb
    simp only [Bool.and_eq_true] at hc
    obtain ⟨⟨c1, c2⟩, c3⟩ := hc
    have hst : ∀ (d : D) (s : Sl) (w : Wd), stT G (ev n G) (.Subscript (.Name x px) b pb) d s w = (match idx G.N x with
      | some k => (match s[k]? with
        | some (some (.own ds)) => (ev n G s b w).bind fun y w => (match y with
          | .val (.int i) => (match L2.ixN ds.length i with
            | some j => .ok (s.set k (some (.own (ds.set j d)))) w
            | none => .bad)
          | _ => .bad)
        | _ => .bad)
      | none => .bad) := fun d s w => by
      cases b <;> first | rfl | cases c3
    cases hi : idx G.N x with
    | none => exact ⟨fun pins sh σ H v u Q I r ⟨s, O, g, w, d, f, st, rv, h⟩ => by
        rw [hst, hi] at h
        exact h.elim⟩
    | some kx =>
      unfold nameB at c1
      rw [hi] at c1
      obtain ⟨v1, v2, v3⟩ := vis_of c1
      have ha : ∀ v, assign (.Subscript (.Name x px) b pb) X.env v = (do
          let ov ← holding [v] (eval (.Name x px) X.env)
          let iv ← holding [v, ov] (eval b X.env)
          standAt pb
          holding [v, ov, iv] (setItem ov iv v)
          release [v, ov, iv] []) := fun v => by
        cases b <;> first | rfl | cases c3
      refine (pg_sub (pe_var (i := kx) (by rw [gd.N]; exact idx_get hi) v1 v2 v3) (sound_e n gd.toGood c2).1 set_list ha).imp fun v σ H Q ⟨s, O, g, w, d, f, st, rv, h⟩ => ?_
      rw [hst, hi] at h
      dsimp only at h
      cases hs : s[kx]? with
      | none => rw [hs] at h; exact h.elim
      | some o =>
        cases o with
        | none => rw [hs] at h; exact h.elim
        | some rv0 =>
          cases rv0 with
          | val d => rw [hs] at h; exact h.elim
          | bor ds => rw [hs] at h; exact h.elim
          | own ds =>
            rw [hs] at h
            dsimp only at h
            obtain ⟨v0, k1, aa, rfl, o, nw, l⟩ := f.sr.at' kx _ hs
            refine ⟨_, k1, s, O, g, w, f.sr, st, ?_⟩
            cases hv : ev n G s b w with
            | exc c w1 => rw [hv] at h; exact h.elim
            | bad => rw [hv] at h; exact h.elim
            | ok ry w1 =>
              rw [hv] at h
              simp only [R.bind_ok] at h
              intro H1 O1 g1 e1 s1 u ru
              split at h
              · rename_i i
                split at h
                · rename_i j hj
                  cases ru
                  have f1 := f.evo st e1
                  obtain ⟨vs, l1, l2⟩ := st.lat e1 nw l
                  have nw1 : ¬ WA g1 aa := WA.of_evo e1 l.al nw
                  obtain ⟨f2, s2, e2⟩ := f1.mut (w := w1) s1 hs k1 (e1.omono _ o) nw1 l1 (Reps.set (st.rep e1 rv) j l2)
                  refine ⟨aa, vs, i, j, rfl, rfl, l1, by rw [l2.length]; exact hj, ?_⟩
                  exact h _ _ _ _ ⟨f2, s2, (e1.s st.wf).trans e2⟩
                · exact h.elim
              · exact h.elim
  · cases hc
theorem sgs_st (gd : GoodS X G k E) : ∀ {ts : List Expr}, (∀ t ∈ ts, chkSt n G.N X.env.scope t = true) → PGs X ts (tSts X.K E n G ts)
  | [], _ => ⟨fun pins sh σ H vs us Q I r ⟨s, O, g, w, ds, f, st, rs, h⟩ => by
      cases rs with
      | nil => exact pgs_nil.run pins sh σ H [] us Q I r ⟨rfl, h _ _ _ _ ⟨f, st, EvoS.refl⟩⟩
      | cons a b => exact h.elim⟩
  | t :: ts, hc => by
    have h1 := sg_st (X := X) (G := G) (E := E) (n := n) gd (hc t (by simp))
    have h2 := sgs_st gd (ts := ts) fun t ht => hc t (List.mem_cons_of_mem _ ht)
    have hs : (assignEach (t :: ts) X.env).map (·.2) = assign t X.env :: (assignEach ts X.env).map (·.2) := by
      have := hc t (by simp)
      cases t <;> first | rfl | (simp [chkSt] at this)
    refine ⟨fun pins sh σ H vs us Q I r ⟨s, O, g, w, ds, f, st, rs, h⟩ => ?_⟩
    refine (pgs_cons h1 h2 hs).run pins sh σ H vs us Q I r ?_
    cases rs with
    | nil => exact h.elim
    | @cons v vr d dr ra rb =>
      have h : PsN X.K E H O g ((stT G (ev n G) t d s w).bind fun s w => stTs G (ev n G) ts dr s w) Q := h
      refine ⟨v, vr, rfl, s, O, g, w, d, f, st, ra, ?_⟩
      cases hv : stT G (ev n G) t d s w with
      | exc c w1 => rw [hv] at h; exact h
      | bad => rw [hv] at h; exact h
      | ok s1 w1 =>
        rw [hv] at h
        exact fun σ' H' O' g' ⟨f', st', e'⟩ => ⟨s1, O', g', w1, dr, f', st', rb.evoS e' st.wf, h.later e'⟩
theorem ae_st : ∀ {ts : List Expr} {sc : Scope} {N : List Str} {env : Env}, (∀ t ∈ ts, chkSt n N sc t = true) → (assignEach ts env).length = ts.length ∧ (assignEach ts env).findIdx? (·.1) = none
  | [], _, _, _, _ => ⟨rfl, rfl⟩
  | t :: ts, sc, N, env, hc => by
    obtain ⟨h1, h2⟩ := ae_st (ts := ts) (sc := sc) (N := N) (env := env) fun t ht => hc t (List.mem_cons_of_mem _ ht)
    have hs : assignEach (t :: ts) env = (false, assign t env) :: assignEach ts env := by
      have := hc t (by simp)
      cases t <;> first | rfl | (simp [chkSt] at this)
    rw [hs]
    refine ⟨by simp [h1], ?_⟩
    rw [List.findIdx?_cons]
    simp [h2]
theorem stTs_len {f : Sl → EvF} : ∀ {ts : List Expr} {ds : List D} {s s' : Sl} {w w' : Wd}, stTs G f ts ds s w = .ok s' w' → ds.length = ts.length
  | [], ds, s, s', w, w', h => by
    cases ds with
    | nil => rfl
    | cons _ _ => cases h
  | t :: ts, ds, s, s', w, w', h => by
    cases ds with
    | nil => cases h
    | cons d ds =>
      have h : ((stT G f t d s w).bind fun s w => stTs G f ts ds s w) = .ok s' w' := h
      cases hv : stT G f t d s w with
      | exc c w1 => rw [hv] at h; cases h
      | bad => rw [hv] at h; cases h
      | ok s1 w1 =>
        rw [hv] at h
        simp [stTs_len h]
/-- an assignment to a tuple of targets, by the tuple -/
theorem ss_tup {ts : List Expr} {kt : Nat} {pt : Pos} (gd : GoodS X G k E) (hc : ∀ t ∈ ts, chkSt n G.N X.env.scope t = true) (he : PE X e (tE X.K n G e)) (hs : swapsWithSole [.Tuple ts kt pt] e pos.line X.env = pure false) (hw : swappedStores [.Tuple ts kt pt] e X.env = pure none) :
    PS X (.Assign [.Tuple ts kt pt] e pos) (tX X.K E fun s w => (asgW G (ev n G) (.Tuple ts kt pt) e s w).bind fun s w => .ok (.nxt s) w) := by
  obtain ⟨a1, a2⟩ := ae_st (env := X.env) hc
  refine ⟨fun pins sh σ H D I ⟨s, O, g, w, f, st, h⟩ => ?_⟩
  refine (ps_asg he (pg_tup gd.calm (sgs_st gd hc) a1 a2) hs hw rfl).run pins sh σ H D I ?_
  have h := h.of_bind
  simp only [asgW] at h
  refine ⟨s, O, g, w, f.sr, st, ?_⟩
  cases hv : ev n G s e w with
  | exc c w1 => rw [hv] at h; exact h.elim
  | bad => rw [hv] at h; exact h.elim
  | ok rv w1 =>
    rw [hv] at h
    simp only [R.bind_ok] at h
    intro H1 O1 g1 e1 s1 v r
    split at h
    · rename_i ds
      have r' : Rep g1 O1 H1 v (.tuple ds) := r
      cases r' with
      | tup h1 r1 =>
        have hl : ds.length = ts.length := by
          cases hz : stTs G (ev n G) ts ds s w1 with
          | ok s2 w2 => exact stTs_len hz
          | exc c w2 => rw [hz] at h; exact h.elim
          | bad => rw [hz] at h; exact h.elim
        exact ⟨_, _, rfl, SqT.of h1, by rw [r1.length]; exact hl, s, O1, g1, w1, ds, f.evo st e1, s1, r1, h.later (e1.s st.wf)⟩
    · exact h.elim
/-- a, b = x, y -/
theorem ss_par {x y : Str} {px py pt p2 : Pos} {kt k2 : Nat} {i j : Nat} {N : List Str} {sc : Scope} {m : Nat} (gd : GoodS X G k E) (hi : idx G.N x = some i) (hj : idx G.N y = some j) (hij : i ≠ j) (hx : X.env.scope.names.lookup x = some .local) (hy : X.env.scope.names.lookup y = some .local)
    (hs : ∀ e ∈ [a, b], chk m N sc e = true) (ih : ∀ e ∈ [a, b], PE X e (tE X.K n G e)) (hw : swappedStores [.Tuple [.Name x px, .Name y py] kt pt] (.Tuple [a, b] k2 p2) X.env = pure (some [x, y])) :
    PS X (.Assign [.Tuple [.Name x px, .Name y py] kt pt] (.Tuple [a, b] k2 p2) pos) (tX X.K E fun s w => (asgW G (ev (n + 1) G) (.Tuple [.Name x px, .Name y py] kt pt) (.Tuple [a, b] k2 p2) s w).bind fun s w => .ok (.nxt s) w) := by
  refine ⟨fun pins sh σ H D I ⟨s, O, g, w, f, st, h⟩ => ?_⟩
  refine (ps_par (i := i) (j := j) gd.calm gd.nd (by rw [gd.N]; exact idx_get hi) (by rw [gd.N]; exact idx_get hj) hij hx hy (sv_args hs ih) hw rfl).run pins sh σ H D I ?_
  have h := h.of_bind
  have h : PsN X.K E H O g ((tupW (ev n G s) [a, b] w).bind fun v w => (match v with
    | .val (.tuple ds) => stTs G (ev (n + 1) G) [.Name x px, .Name y py] ds s w
    | _ => .bad)) D.nx := h
  unfold tupW at h
  refine ⟨s, O, g, w, f.sr, st, ?_⟩
  cases hv : evsW (ev n G s) [a, b] w with
  | exc c w1 => rw [hv] at h; exact h.elim
  | bad => rw [hv] at h; exact h.elim
  | ok rs w1 =>
    rw [hv] at h
    simp only [R.bind_ok] at h
    intro H1 O1 g1 e1 s1 vs ra
    cases hd : datS rs with
    | none => rw [hd] at h; exact h.elim
    | some ds =>
      rw [hd] at h
      dsimp only at h
      have rr := repAs_dat ra hd
      by_cases hl : ds.length ≤ cap
      · rw [if_pos hl] at h
        simp only [R.bind_ok] at h
        have hlen : ds.length = 2 := by
          cases hz : stTs G (ev (n + 1) G) [.Name x px, .Name y py] ds s w1 with
          | ok s2 w2 => exact stTs_len hz
          | exc c w2 => rw [hz] at h; exact h.elim
          | bad => rw [hz] at h; exact h.elim
        match ds, hlen, rr, h with
        | [d1, d2], _, rr, h =>
          cases rr with
          | cons r1 rt =>
            cases rt with
            | cons r2 rt =>
              cases rt
              simp only [stTs, stT, hi, hj, R.bind_ok] at h
              exact ⟨_, _, rfl, h _ _ _ _ ⟨((f.evo st e1).setV i r1).setV j r2, s1, e1.s st.wf⟩⟩
      · rw [if_neg hl] at h
        exact h.elim
theorem ss_sub {o b : Expr} {pb : Pos} (gd : GoodS X G k E) (hc : chkSt n G.N X.env.scope (.Subscript o b pb) = true) (he : PE X e (tE X.K n G e)) (hs : swapsWithSole [.Subscript o b pb] e pos.line X.env = pure false) :
    PS X (.Assign [.Subscript o b pb] e pos) (tX X.K E fun s w => (asgW G (ev n G) (.Subscript o b pb) e s w).bind fun s w => .ok (.nxt s) w) := by
  refine ⟨fun pins sh σ H D I ⟨s, O, g, w, f, st, h0⟩ => ?_⟩
  have h := h0.of_bind
  simp only [asgW] at h
  clear h0
  cases hd : isDst G s (.Subscript o b pb) with
  | some q =>
    obtain ⟨k', ps, b'⟩ := q
    rw [hd] at h
    dsimp only at h
    unfold isDst at hd
    dsimp only at hd
    split at hd
    · cases hd
    · rename_i hns
      simp only [Option.map_eq_some_iff] at hd
      obtain ⟨⟨j, ps2⟩, h1, h2⟩ := hd
      obtain ⟨rfl, rfl, rfl⟩ : j = k' ∧ ps2 = ps ∧ b = b' := by cases h2; exact ⟨rfl, rfl, rfl⟩
      obtain ⟨x, px, rfl⟩ : ∃ x px, o = .Name x px := by
        unfold isDct at h1
        split at h1
        · exact ⟨_, _, rfl⟩
        · cases h1
      have hc : (nameB G.N X.env.scope x && chk n G.N X.env.scope b && notSl b) = true := hc
      simp only [Bool.and_eq_true] at hc
      obtain ⟨⟨hx, hb⟩, _⟩ := hc
      obtain ⟨hi, hsj, ad, kvs, k1, oo, nw, rd, r⟩ := f.sr.dct h1
      unfold nameB at hx
      rw [hi] at hx
      obtain ⟨v1, v2, v3⟩ := vis_of hx
      have hu := gd.room.units
      refine (ps_dput (by omega) (pe_var (X := X) (i := j) (pos := px) (by rw [gd.N]; exact idx_get hi) v1 v2 v3) (sound_e n gd.toGood hb).1 he hs).run pins sh σ H D I ⟨s, O, g, w, f.sr, st, ?_⟩
      cases hv : ev n G s e w with
      | exc c w1 => rw [hv] at h; exact (h : False).elim
      | bad => rw [hv] at h; exact (h : False).elim
      | ok rv w1 =>
        rw [hv] at h
        simp only [R.bind_ok] at h
        intro H1 O1 g1 e1 s1 v rvv
        cases hf : frz rv with
        | none => rw [hf] at h; exact (h : False).elim
        | some d =>
          rw [hf] at h
          dsimp only at h
          obtain ⟨O2, e2, s2, r2⟩ := frz_ok st.wf e1 s1 rvv hf
          have f2 := f.evo st e2
          refine ⟨_, k1, s, O2, g1, w1, f2.sr, s2, ?_⟩
          cases hv2 : ev n G s b w1 with
          | exc c w2 => rw [hv2] at h; exact (h : False).elim
          | bad => rw [hv2] at h; exact (h : False).elim
          | ok rk w2 =>
            rw [hv2] at h
            simp only [R.bind_ok] at h
            intro H3 O3 g3 e3 s3 y ry
            cases hk : asKeys rk.dat with
            | none => rw [hk] at h; exact (h : False).elim
            | some ks =>
              rw [hk] at h
              dsimp only at h
              by_cases hl : ps2.length < 1000
              · rw [if_pos hl] at h
                obtain ⟨bk, rfl, hbk⟩ := key_at ry hk
                have f3 := f2.evo s2 e3
                obtain ⟨_, _, ad3, kvs3, k3, o3, nw3, _, r3⟩ := f3.sr.dct h1
                obtain ⟨_, kvs4, q4⟩ := f3.fd j _ ad3 hsj k3
                rw [k1] at k3
                cases k3
                obtain ⟨_, _, ad5, kvs5, k5, o5, nw5, rd5, r5⟩ := f3.sr.dct h1
                rw [k1] at k5
                cases k5
                have ek : kvs5 = kvs4 := by
                  rcases rd5 with z | ⟨od, z⟩
                  · rw [q4] at z; cases z; rfl
                  · rw [q4] at z; cases z
                subst ek
                refine ⟨ad, _, rfl, .inr ⟨kvs5, ks, bk, q4, rfl, hbk, ?_, rfl⟩, ?_⟩
                · rw [r5.len, sizeLine_eq]; omega
                · obtain ⟨f6, s6, e6⟩ := f3.putD s3 hsj k1 o5 nw5 q4 (r5.put ks (s2.rep e3 r2))
                  exact h _ _ _ _ ⟨f6, s6, ((e2.trans e3).s st.wf).trans e6⟩
              · rw [if_neg hl] at h
                exact (h : False).elim
  | none =>
  rw [hd] at h
  dsimp only at h
  refine (ps_asg he (sg_st gd hc) hs rfl rfl).run pins sh σ H D I ?_
  refine ⟨s, O, g, w, f.sr, st, ?_⟩
  cases hv : ev n G s e w with
  | exc c w1 => rw [hv] at h; exact h.elim
  | bad => rw [hv] at h; exact h.elim
  | ok rv w1 =>
    rw [hv] at h
    simp only [R.bind_ok] at h
    intro H1 O1 g1 e1 s1 v r
    cases hf : frz rv with
    | none => rw [hf] at h; exact h.elim
    | some d =>
      rw [hf] at h
      obtain ⟨O2, e2, s2, r2⟩ := frz_ok st.wf e1 s1 r hf
      exact ⟨s, O2, g1, w1, d, f.evo st e2, s2, r2, h.later (e2.s st.wf)⟩

/-! #### a op= e -/
def pW (X : Cx) (op : Operator) : TIp := fun x y H Q => ∀ (pins : List (Addr × Obj)) (s : Shared) (σ : L2.St) (v u : Value), Inv X pins σ H s → RelV x v → RelV y u → wpAny (model X.prog X.w) X.A (inplaceOp op v u) (EP X pins σ Q) X.xe s
theorem pipW {op : Operator} : PIp X op (pW X op) := fun pins s σ H x y v u Q I r1 r2 h => h pins s σ v u I r1 r2
theorem OpR.ip {op : Operator} {r : R2} (h : OpR X (inplaceOp op) r) {x y : V} {H : Hp} {Q : VK} (q : r x y H Q) : pW X op x y H Q := fun pins s σ v u I r1 r2 => h pins s σ H x y v u Q I r1 r2 q
theorem ss_aug {x : Str} {px : Pos} {op : Operator} (gd : GoodS X G k E) (hx : locB X.env.scope x = true) (he : PE X e (tE X.K n G e)) :
    PS X (.AugAssign (.Name x px) op e pos) (tX X.K E fun s w => (augW G (ev n G) (.Name x px) op e s w).bind fun s w => .ok (.nxt s) w) := by
  refine ⟨fun pins sh σ H D I ⟨s, O, g, w, f, st, h⟩ => ?_⟩
  have h := h.of_bind
  cases hi : idx G.N x with
  | none =>
    simp only [augW, hi] at h
    exact h.elim
  | some i =>
    simp only [augW, hi] at h
    refine (ps_aug (i := i) gd.nd (by rw [gd.N]; exact idx_get hi) (loc_of hx) he pipW (.inl (gd.fn x))).run pins sh σ H D I ?_
    cases hs : s[i]? with
    | none => rw [hs] at h; exact h.elim
    | some o =>
      cases o with
      | none => rw [hs] at h; exact h.elim
      | some r0 =>
        rw [hs] at h
        dsimp only at h
        obtain ⟨v0, k1, k2⟩ := f.sr.at' i _ hs
        refine ⟨v0, k1, s, O, g, w, f.sr, st, ?_⟩
        cases hv : ev n G s e w with
        | exc c w1 => rw [hv] at h; exact h.elim
        | bad => rw [hv] at h; exact h.elim
        | ok ry w1 =>
          rw [hv] at h
          simp only [R.bind_ok] at h
          intro H1 O1 g1 e1 s1 u ru
          have f1 := f.evo st e1
          cases ho : augop op r0 ry with
          | none => rw [ho] at h; exact h.elim
          | some z =>
            rw [ho] at h
            dsimp only at h
            unfold augop at ho
            split at ho
            · rename_i xs
              split at ho
              · rename_i ys ey
                split at ho
                · rename_i hl
                  cases ho
                  obtain ⟨aa, rfl, o, nw, l⟩ := k2
                  obtain ⟨vs, l1, l2⟩ := st.lat e1 nw l
                  obtain ⟨bb, rfl, us, hb, rb⟩ := ru.b.lst ey
                  have nw1 : ¬ WA g1 aa := WA.of_evo e1 l.al nw
                  obtain ⟨f2, s2, e2⟩ := f1.mut (w := w1) s1 hs k1 (e1.omono _ o) nw1 l1 (l2.append rb)
                  refine OpR.ip iop_ext ⟨aa, bb, vs, us, rfl, rfl, l1, hb, by rw [l2.length, rb.length]; exact Nat.le_trans hl cap_line, ?_⟩
                  have hσ : σ.set i (some (.ref aa)) = σ := by
                    obtain ⟨hlt, e⟩ := List.getElem?_eq_some_iff.mp k1
                    rw [← e, List.set_getElem_self]
                  show D.nx (σ.set i (some (.ref aa))) _
                  rw [hσ]
                  exact h _ _ _ _ ⟨f2, s2, (e1.s st.wf).trans e2⟩
                · cases ho
              · cases ho
            · split at ho
              · cases ho; cases k2; cases ru
                exact OpR.ip iop_add ⟨_, _, rfl, rfl, h _ _ _ _ ⟨f1.setV i (.int _), s1, e1.s st.wf⟩⟩
              · cases ho
            · split at ho
              · split at ho
                · rename_i hm
                  cases ho; cases k2; cases ru
                  exact OpR.ip iop_mul ⟨_, _, rfl, rfl, mulOk_c hm, h _ _ _ _ ⟨f1.setV i (.int _), s1, e1.s st.wf⟩⟩
                · cases ho
              · cases ho
            · cases ho
end
end TM

namespace TM
open PySem PySem.Spec PyProof.Rows L2
variable [CNm]

section
variable {X : Cx} {G : Cn} {E : En} {n k : Nat} {pos p : Pos} {e a b c t : Expr}
/-! ### blocks -/
theorem sx_seq {f : Stmt → Sl → Wd → R Out} : ∀ {body : List Stmt}, (∀ st ∈ body, PS X st (tX X.K E (f st))) → PSs X body (tX X.K E (execs f body))
  | [], _ => pss_nil.imp fun D σ H ⟨s, O, g, w, fr, st, h⟩ => h _ _ _ _ ⟨fr, st, EvoS.refl⟩
  | st0 :: r, ih => by
    refine (pss_cons (ih st0 (by simp)) (sx_seq (body := r) fun st hs => ih st (List.mem_cons_of_mem _ hs))).imp fun D σ H ⟨s, O, g, w, fr, st, h⟩ => ?_
    refine ⟨s, O, g, w, fr, st, ?_⟩
    have h : Ps X.K E H O g ((f st0 s w).bind fun o w => match o with
      | .nxt s => execs f r s w
      | o => .ok o w) D := h
    cases hv : f st0 s w with
    | exc c w1 => rw [hv] at h; exact h
    | bad => rw [hv] at h; exact h
    | ok o w1 =>
      rw [hv] at h
      cases o with
      | nxt s1 => exact fun σ' H' O' g' ⟨f', st', e'⟩ => ⟨s1, O', g', w1, f', st', Ps.later h e'⟩
      | brk s1 => exact h
      | cnt s1 => exact h
      | ret v => exact h
      | rs c s1 => exact h
/-! ### if -/
theorem ss_if {f : Stmt → Sl → Wd → R Out} {x y : List Stmt} (ht : PT X c (tT X.K n G c)) (ha : PSs X x (tX X.K E (execs f x))) (hb : PSs X y (tX X.K E (execs f y))) :
    PS X (.If c x y pos) (tX X.K E fun s w => (tstW (ev n G s) c w).bind fun b w => (match b with
      | true => execs f x s w
      | false => execs f y s w)) := by
  refine (ps_if ht ha hb).imp fun D σ H ⟨s, O, g, w, fr, st, h⟩ => ?_
  refine ⟨s, O, g, w, fr.sr, st, ?_⟩
  dsimp only at h
  cases hv : tstW (ev n G s) c w with
  | exc c w1 => rw [hv] at h; exact h
  | bad => rw [hv] at h; exact h
  | ok b w1 =>
    rw [hv] at h
    intro H1 O1 g1 e1 s1
    have h := Ps.later h (e1.s st.wf)
    cases b with
    | true =>
      show tX X.K E (execs f x) D σ H1
      exact ⟨s, O1, g1, w1, fr.evo st e1, s1, h⟩
    | false =>
      show tX X.K E (execs f y) D σ H1
      exact ⟨s, O1, g1, w1, fr.evo st e1, s1, h⟩
/-! ### while -/
theorem ss_while {f : Stmt → Sl → Wd → R Out} {x : List Stmt} {N0 : Nat} (gd : GoodS X G k E) (ht : PT X c (tT X.K n G c)) (ha : PSs X x (tX X.K E (execs f x))) :
    PS X (.While c x [] pos) (tX X.K E fun s w => whlL (fun s w => tstW (ev n G s) c w) (fun s w => execs f x s w) N0 s w) := by
  refine (ps_while gd.po ht ha).imp fun D σ H ⟨s, O, g, w, fr, st, h⟩ => ?_
  refine ⟨fun m σ' H' => ∃ s' O' g' w', Frm E s' σ' H' O' g' ∧ St3 X.K H' O' g' w' ∧ EvoS H O g H' O' g' ∧ Ps X.K E H O g (whlL (fun s w => tstW (ev n G s) c w) (fun s w => execs f x s w) m s' w') D, ⟨N0, s, O, g, w, fr, st, EvoS.refl, h⟩, ?_⟩
  rintro m σ' H' ⟨s', O', g', w', fr', st', e', h'⟩
  cases m with
  | zero => exact (h' : False).elim
  | succ m =>
    refine ⟨s', O', g', w', fr'.sr, st', ?_⟩
    have h' : Ps X.K E H O g ((tstW (ev n G s') c w').bind fun b w => match b with
      | false => .ok (.nxt s') w
      | true => (execs f x s' w).bind fun o w => match o with
        | .nxt s => whlL (fun s w => tstW (ev n G s) c w) (fun s w => execs f x s w) m s w
        | .cnt s => whlL (fun s w => tstW (ev n G s) c w) (fun s w => execs f x s w) m s w
        | .brk s => .ok (.nxt s) w
        | .ret v => .ok (.ret v) w
        | .rs c s => .ok (.rs c s) w) D := h'
    cases hv : tstW (ev n G s') c w' with
    | exc c w1 => rw [hv] at h'; exact h'
    | bad => rw [hv] at h'; exact h'
    | ok b w1 =>
      rw [hv] at h'
      simp only [R.bind_ok] at h'
      intro H1 O1 g1 e1 s1
      have e2 := e'.trans (e1.s st'.wf)
      cases b with
      | false =>
        show D.nx σ' H1
        exact h' _ _ _ _ ⟨fr'.evo st' e1, s1, e2⟩
      | true =>
        show ∃ N : L2.St → Hp → Prop, _
        refine ⟨fun σ2 H2 => ∃ s' O' g' w', Frm E s' σ2 H2 O' g' ∧ St3 X.K H2 O' g' w' ∧ EvoS H O g H2 O' g' ∧ Ps X.K E H O g (whlL (fun s w => tstW (ev n G s) c w) (fun s w => execs f x s w) m s' w') D, fun σ2 H2 q => ⟨m, Nat.lt_succ_self m, q⟩, s', O1, g1, w1, fr'.evo st' e1, s1, ?_⟩
        dsimp only at h'
        cases hx : execs f x s' w1 with
        | exc c w2 => rw [hx] at h'; exact h'
        | bad => rw [hx] at h'; exact h'
        | ok o w2 =>
          rw [hx] at h'
          simp only [R.bind_ok] at h'
          cases o with
          | nxt s2 => exact fun σ2 H2 O2 g2 ⟨f2, st2, e3⟩ => ⟨s2, O2, g2, w2, f2, st2, e2.trans e3, h'⟩
          | cnt s2 => exact fun σ2 H2 O2 g2 ⟨f2, st2, e3⟩ => ⟨s2, O2, g2, w2, f2, st2, e2.trans e3, h'⟩
          | brk s2 => exact fun σ2 H2 O2 g2 ⟨f2, st2, e3⟩ => h' _ _ _ _ ⟨f2, st2, e2.trans e3⟩
          | rs c s2 => exact fun σ2 H2 O2 g2 ⟨f2, st2, e3⟩ => h' _ _ _ _ ⟨f2, st2, e2.trans e3⟩
          | ret v => exact h'
/-! ### for -/
theorem tgt_own {N : List Str} {e : Expr} {d : D} {s s' : Sl} {i : Nat} {r0 : RV} (hr0 : ∀ d, r0 ≠ .val d) (h : tgt N e d s = some s') (hi : s'[i]? = some (some r0)) : i ∉ tgIx N e ∧ s[i]? = some (some r0) := by
  have one : ∀ {j : Nat} {d : D} {s : Sl}, (s.set j (some (.val d)))[i]? = some (some r0) → i ≠ j ∧ s[i]? = some (some r0) := fun {j d s} h => by
    by_cases q : j = i
    · subst q
      have hl : j < s.length := by
        have := (List.getElem?_eq_some_iff.mp h).1
        simpa using this
      rw [List.getElem?_set_self hl] at h
      exact absurd (Option.some.inj (Option.some.inj h)).symm (hr0 _)
    · rw [List.getElem?_set_ne q] at h
      exact ⟨fun z => q z.symm, h⟩
  have all : ∀ {es : List Expr} {xs : List D} {s s' : Sl}, tgtS N es xs s = some s' → s'[i]? = some (some r0) → i ∉ (es.filterMap fun e => match e with | .Name x _ => idx N x | _ => none) ∧ s[i]? = some (some r0) := fun {es} => by
    induction es with
    | nil =>
      intro xs s s' h hi
      unfold tgtS at h
      split at h
      · cases h; exact ⟨by simp, hi⟩
      · cases h
    | cons e r ih =>
      intro xs s s' h hi
      unfold tgtS at h
      split at h
      · split at h
        · rename_i j hj
          obtain ⟨h1, h2⟩ := ih h hi
          obtain ⟨h3, h4⟩ := one h2
          exact ⟨by simp only [List.filterMap_cons, hj]; exact fun z => (List.mem_cons.mp z).elim h3 h1, h4⟩
        · cases h
      · cases h
  unfold tgt at h
  split at h
  · split at h
    · rename_i j hj
      cases h
      obtain ⟨h1, h2⟩ := one hi
      exact ⟨by simp [tgIx, hj, h1], h2⟩
    · cases h
  · split at h
    · exact all h hi
    · cases h
  · cases h
def tTgF (K : PySem.W.Frag) (E : En) (N : List Str) (e : Expr) : TG := fun v σ H Q => ∃ s O g w d s', Frm E s σ H O g ∧ St3 K H O g w ∧ Rep g O H v d ∧ tgt N e d s = some s' ∧ ∀ σ', Frm E s' σ' H O g → Q σ' H
theorem sg_for (h : PG X t (tTg X.K G.N t)) : PG X t (tTgF X.K E G.N t) := by
  refine h.imp fun v σ H Q ⟨s, O, g, w, d, s', fr, st, r, ht, q⟩ => ⟨s, O, g, w, d, s', fr.sr, st, r, ht, fun σ' sr' hw => q σ' ⟨sr', fr.ev, fun i ds aa h1 h2 => ?_, fun i ds aa h1 h2 => ?_⟩⟩
  · obtain ⟨k1, k2⟩ := tgt_own (fun _ z => by cases z) ht h1
    have e := hw (tgIx G.N t) fun _ z => z
    have e2 : σ'[i]? = σ[i]? := by rw [← wipe_out (σ := σ') k1, e, wipe_out k1]
    rw [e2] at h2
    exact fr.fr i ds aa k2 h2
  · obtain ⟨k1, k2⟩ := tgt_own (fun _ z => by cases z) ht h1
    have e := hw (tgIx G.N t) fun _ z => z
    have e2 : σ'[i]? = σ[i]? := by rw [← wipe_out (σ := σ') k1, e, wipe_out k1]
    rw [e2] at h2
    exact fr.fd i ds aa k2 h2
theorem frzN_ok {s : Sl} {σ : L2.St} {H : Hp} {O : Os} {g : Gh} {w : Wd} (gd : GoodS X G k E) (f : Frm E s σ H O g) (st : St3 X.K H O g w) : ∃ O', Frm E (frzN G e s) σ H O' g ∧ St3 X.K H O' g w ∧ EvoS H O g H O' g := by
  have dflt : frzN G e s = s → ∃ O', Frm E (frzN G e s) σ H O' g ∧ St3 X.K H O' g w ∧ EvoS H O g H O' g := fun h => by rw [h]; exact ⟨O, f, st, EvoS.refl⟩
  cases e with
  | Name x px =>
    cases hi : idx G.N x with
    | none => exact dflt (by simp [frzN, hi])
    | some i =>
      cases hs : s[i]? with
      | none => exact dflt (by simp [frzN, hi, hs])
      | some o =>
        cases o with
        | none => exact dflt (by simp [frzN, hi, hs])
        | some r =>
          cases r with
          | val d => exact dflt (by simp [frzN, hi, hs])
          | bor d => exact dflt (by simp [frzN, hi, hs])
          | own ds =>
            have : frzN G (.Name x px) s = s.set i (some (.val (.list ds))) := by simp [frzN, hi, hs]
            rw [this]
            obtain ⟨v, k1, aa, rfl, o, nw, l⟩ := f.sr.at' i _ hs
            obtain ⟨f2, s2, e2, _⟩ := f.rem gd.wE st hs k1 nw l
            exact ⟨_, f2, s2, e2⟩
  | _ => exact dflt rfl
theorem ss_for {f : Stmt → Sl → Wd → R Out} {x : List Stmt} {tg iter : Expr} (gd : GoodS X G k E) (hi : PI X tg iter (tI X.K false n G iter)) (hg : PG X tg (tTg X.K G.N tg)) (hb : PSs X x (tX X.K E (execs f x))) (hs : ∀ y, foldedSetIterable iter X.env y = pure y) :
    PS X (.For tg iter x [] pos) (tX X.K E fun s w => (iterW false G (ev n G (frzN G iter s)) iter w).bind fun ds w => forL (fun d s w => match tgt G.N tg d s with
        | some s => execs f x s w
        | none => .bad) ds (frzN G iter s) w) := by
  refine (ps_for gd.po gd.calm hi (sg_for (E := E) hg) hb hs).imp fun D σ H ⟨s, O, g, w, fr, st, h⟩ => ?_
  obtain ⟨O0, fr0, st0, e0⟩ := frzN_ok (e := iter) gd fr st
  refine ⟨frzN G iter s, O0, g, w, fr0.sr, st0, ?_⟩
  dsimp only at h
  cases hv : iterW false G (ev n G (frzN G iter s)) iter w with
  | exc c w1 => rw [hv] at h; exact h
  | bad => rw [hv] at h; exact h
  | ok ds w1 =>
    rw [hv] at h
    simp only [R.bind_ok] at h
    intro H1 O1 g1 e1 s1 J sq
    obtain ⟨Gp, Y, wk, hG, hY⟩ := sq
    have h := h.later (e0.trans (e1.s st0.wf))
    refine for_it wk (fun i σ' H' => ∃ s' O' g' w', Frm E s' σ' H' O' g' ∧ St3 X.K H' O' g' w' ∧ EvoS H1 O1 g1 H' O' g' ∧ Ps X.K E H1 O1 g1 (forL (fun d s w => match tgt G.N tg d s with
        | some s => execs f x s w
        | none => .bad) (ds.drop i) s' w') D) ?_ ?_ ?_ ?_
    · exact ⟨frzN G iter s, O1, g1, w1, fr0.evo st0 e1, s1, EvoS.refl, by simpa using h⟩
    · rintro i σ' H' hi ⟨s', O', g', w', _, _, ee, _⟩
      exact hG H' O' g' ee
    · rintro i y σ' H' H'' hi ⟨s', O', g', w', fr', st', ee, rest⟩ hy
      obtain ⟨rfl, d, hdi, rx⟩ := hY i H' O' g' y H'' ee hi hy
      have hdrop : ds.drop i = d :: ds.drop (i + 1) := by
        obtain ⟨hl, e⟩ := List.getElem?_eq_some_iff.mp hdi
        rw [List.drop_eq_getElem_cons hl, e]
      rw [hdrop] at rest
      unfold forL at rest
      cases ht : tgt G.N tg d s' with
      | none => rw [ht] at rest; exact rest.elim
      | some s2 =>
        rw [ht] at rest
        dsimp only at rest
        refine ⟨s', O', g', w', d, s2, fr', st', rx, ht, fun σ2 fr2 => ⟨s2, O', g', w', fr2, st', ?_⟩⟩
        cases hx : execs f x s2 w' with
        | exc c w2 => rw [hx] at rest; exact rest
        | bad => rw [hx] at rest; exact rest
        | ok o w2 =>
          rw [hx] at rest
          simp only [R.bind_ok] at rest
          cases o with
          | nxt s3 => exact fun σ3 H3 O3 g3 ⟨f3, st3, e3⟩ => ⟨s3, O3, g3, w2, f3, st3, ee.trans e3, rest⟩
          | cnt s3 => exact fun σ3 H3 O3 g3 ⟨f3, st3, e3⟩ => ⟨s3, O3, g3, w2, f3, st3, ee.trans e3, rest⟩
          | brk s3 => exact fun σ3 H3 O3 g3 ⟨f3, st3, e3⟩ => rest _ _ _ _ ⟨f3, st3, ee.trans e3⟩
          | rs c s3 => exact fun σ3 H3 O3 g3 ⟨f3, st3, e3⟩ => rest _ _ _ _ ⟨f3, st3, ee.trans e3⟩
          | ret v => exact rest
    · rintro σ' H' ⟨s', O', g', w', fr', st', ee, rest⟩
      rw [List.drop_length] at rest
      exact rest _ _ _ _ ⟨fr', st', ee⟩
/-! ### return -/
theorem ss_ret (gd : GoodS X G k E) (hc : chk (n + 1) G.N X.env.scope e = true) : PS X (.Return (some e) pos) (tX X.K E fun s w => retW G (ev (n + 1) G s) e s w) := by
  refine ⟨fun pins sh σ H D I ⟨s, O, g, w, f, st, h⟩ => ?_⟩
  cases ho : isOwn G e s with
  | some jd =>
    obtain ⟨j, ds⟩ := jd
    obtain ⟨y, py, rfl, hj, hsj⟩ := isOwn_some ho
    have hv : nameB G.N X.env.scope y = true := hc
    unfold nameB at hv
    rw [hj] at hv
    obtain ⟨v1, v2, v3⟩ := vis_of hv
    refine (ps_ret (pe_var (i := j) (by rw [gd.N]; exact idx_get hj) v1 v2 v3)).run pins sh σ H D I ?_
    simp only [retW, ho] at h
    obtain ⟨v, k1, aa, rfl, o, nw, l⟩ := f.sr.at' j _ hsj
    exact ⟨_, k1, h _ _ _ _ f.ev st ⟨aa, rfl, o, nw, f.fr j ds aa hsj k1, l⟩⟩
  | none =>
    refine (ps_ret (sound_e (n + 1) gd.toGood hc).1).run pins sh σ H D I ?_
    simp only [retW, ho] at h
    refine ⟨s, O, g, w, f.sr, st, ?_⟩
    cases hv : ev (n + 1) G s e w with
    | exc c w1 => rw [hv] at h; exact h
    | bad => rw [hv] at h; exact h
    | ok r w1 =>
      rw [hv] at h
      simp only [R.bind_ok] at h
      intro H1 O1 g1 e1 s1 v rv
      cases r with
      | bor ds => exact h.elim
      | val d => exact h _ _ _ _ (f.ev.trans e1) s1 rv
      | own ds =>
        obtain ⟨aa, rfl, o, nw, f0, l⟩ := rv
        exact h _ _ _ _ (f.ev.trans e1) s1 ⟨aa, rfl, o, nw, f.ev.back f0, l⟩
/-! ### an expression alone -/
theorem isMut_some {x m : Str} {aa : Expr} (h : isMut e = some (x, m, aa)) : ∃ px pa pc, e = .Call (.Attribute (.Name x px) m pa) [aa] [] pc ∧ (m = "append" ∨ m = "remove") := by
  unfold isMut at h
  split at h
  · split at h
    · rename_i hm
      cases h
      exact ⟨_, _, _, rfl, hm⟩
    · cases h
  · cases h
theorem Reps.ints2 {g : Gh} {O : Os} {H : Hp} {ds : List D} {ns : List Int} (h : asInts ds = some ns) : ds = ns.map .int := by
  induction ds generalizing ns with
  | nil => cases h; rfl
  | cons d r ih =>
    cases d with
    | int i =>
      simp only [asInts, Option.map_eq_some_iff] at h
      obtain ⟨ms, h1, rfl⟩ := h
      rw [ih h1]; rfl
    | _ => simp [asInts] at h
theorem ss_mut {x m : Str} {aa : Expr} {px pa pc : Pos} (gd : GoodS X G k E) (hm : m = "append" ∨ m = "remove") (hn : nameB G.N X.env.scope x = true) (hc : chk n G.N X.env.scope aa = true) (hl : (pa.endLine == pc.line) = true) :
    PS X (.Expr (.Call (.Attribute (.Name x px) m pa) [aa] [] pc) pos) (tX X.K E fun s w => (mutW G (ev n G) x m aa s w).bind fun s w => .ok (.nxt s) w) := by
  refine ⟨fun pins sh σ H D I ⟨s, O, g, w, f, st, h⟩ => ?_⟩
  have h := h.of_bind
  cases hi : idx G.N x with
  | none => simp only [mutW, hi] at h; exact h.elim
  | some i =>
    simp only [mutW, hi] at h
    unfold nameB at hn
    rw [hi] at hn
    obtain ⟨v1, v2, v3⟩ := vis_of hn
    have pv := pe_var (X := X) (i := i) (pos := px) (by rw [gd.N]; exact idx_get hi) v1 v2 v3
    have A : PA X [aa] (tA X.K n G [aa]) := sv_args (es := [aa]) (fun e he => by rw [List.mem_singleton.mp he]; exact hc) fun e he => by rw [List.mem_singleton.mp he]; exact (sound_e n gd.toGood hc).1
    cases hs : s[i]? with
    | none => rw [hs] at h; exact h.elim
    | some o =>
      cases o with
      | none => rw [hs] at h; exact h.elim
      | some r0 =>
        cases r0 with
        | val d => rw [hs] at h; exact h.elim
        | bor d => rw [hs] at h; exact h.elim
        | own ds =>
          rw [hs] at h
          dsimp only at h
          obtain ⟨v0, k1, al, rfl, o, nw, l⟩ := f.sr.at' i _ hs
          have common : ∀ {r : V → List V → Hp → VK → Prop}, (∀ {H1 : Hp} {O1 : Os} {g1 : Gh} {w1 : Wd} {y : V} {d : PyData} {vs : List V}, Evo H O g H1 O1 g1 → St3 X.K H1 O1 g1 w1 → Rep g1 O1 H1 y d → ∀ ds', mutop m ds d = some ds' → H1 al = some (.lst vs) → Reps g1 O1 H1 vs ds → (∀ us, Reps g1 O1 H1 us ds' → D.nx σ (upd H1 al (.lst us))) → r (.ref al) [y] H1 fun _ H2 => D.nx σ H2) → tDrop (tBM X.K "list" r (tVar i) (tA X.K n G [aa])) D σ H := fun {r} hr => by
            obtain ⟨vs0, l1, l2⟩ := l
            refine ⟨_, k1, .inl ⟨rfl, vs0, SqL.of l1⟩, s, O, g, w, f.sr, st, ?_⟩
            rw [evsW_one]
            cases hv : ev n G s aa w with
            | exc c w1 => rw [hv] at h; exact h.elim
            | bad => rw [hv] at h; exact h.elim
            | ok ry w1 =>
              rw [hv] at h
              simp only [R.bind_ok] at h ⊢
              intro H1 O1 g1 e1 s1 us ru
              cases hf : frz ry with
              | none => rw [hf] at h; exact h.elim
              | some d =>
                rw [hf] at h
                dsimp only at h
                cases hmu : mutop m ds d with
                | none => rw [hmu] at h; exact h.elim
                | some ds' =>
                  rw [hmu] at h
                  dsimp only at h
                  cases ru with
                  | @cons y _ us' _ r1 rt =>
                    cases rt
                    have ry' : Rep g1 O1 H1 y d := by
                      cases ry with
                      | val d' => cases hf; exact r1
                      | own ds => cases hf; exact r1
                      | bor ds => cases hf
                    have k2 := e1.keep _ _ l1 nw
                    have k3 := st.reps e1 l2
                    refine hr e1 s1 ry' ds' hmu k2 k3 fun us ru => ?_
                    obtain ⟨f2, s2, e2⟩ := (f.evo st e1).mut (w := w1) s1 hs k1 (e1.omono _ o) (WA.of_evo e1 (by rw [l1]; simp) nw) k2 ru
                    exact h _ _ _ _ ⟨f2, s2, (e1.s st.wf).trans e2⟩
          rcases hm with rfl | rfl
          · refine (ps_expr (pe_bm PySem.F.plainAttrs_list PySem.F.slot_list_append PySem.F.type_list_append mt_append pv A base_name (few_of hc) hl (star_of hc) rfl) rfl).run pins sh σ H D I (common fun {H1 O1 g1 w1 y d vs} e1 s1 ry ds' hmu k2 k3 fin => ?_)
            unfold mutop at hmu
            rw [if_pos rfl] at hmu
            split at hmu
            · rename_i hlt
              cases hmu
              exact ⟨al, vs, y, rfl, rfl, k2, by rw [k3.length]; exact Nat.lt_of_lt_of_le hlt cap_line, fin _ (k3.append (.cons ry .nil))⟩
            · cases hmu
          · refine (ps_expr (pe_bm PySem.F.plainAttrs_list PySem.F.slot_list_remove PySem.F.type_list_remove mt_remove pv A base_name (few_of hc) hl (star_of hc) rfl) rfl).run pins sh σ H D I (common fun {H1 O1 g1 w1 y d vs} e1 s1 ry ds' hmu k2 k3 fin => ?_)
            unfold mutop at hmu
            rw [if_neg (by decide +kernel), if_pos rfl] at hmu
            split at hmu
            · rename_i ns z hns
              simp only [Option.map_eq_some_iff] at hmu
              obtain ⟨j, hj, rfl⟩ := hmu
              cases ry
              have e1' := k3.ints hns
              have e2' := Reps.ints2 (g := g1) (O := O1) (H := H1) hns
              subst e1'
              obtain ⟨⟨q, q1, q2⟩, q3⟩ := findD_ok hj
              rw [e2'] at q1 q3
              have conv : ∀ (i : Nat) (q : PyData), (ns.map PyData.int)[i]? = some q → ∃ y, ns[i]? = some y ∧ q = .int y := fun i q hq => by
                rw [List.getElem?_map] at hq
                cases hh : ns[i]? with
                | none => rw [hh] at hq; cases hq
                | some y => rw [hh] at hq; exact ⟨y, rfl, (Option.some.inj hq).symm⟩
              obtain ⟨y, hy, rfl⟩ := conv j q q1
              have hy2 : y = z := by simpa [PyData.eqv] using q2
              subst hy2
              refine ⟨al, ns, y, j, rfl, rfl, k2, hy, fun m hm hc => ?_, ?_⟩
              · have := q3 m (.int y) hm (by rw [List.getElem?_map, hc]; rfl)
                simp [PyData.eqv] at this
              · have r3 := k3.eraseIdx j
                rw [erase_mapI] at r3
                exact fin _ r3
            · cases hmu
end
end TM

namespace TM
open PySem PySem.Spec PyProof.Rows L2
variable [CNm]
section
variable {X : Cx} {G : Cn} {E : En} {n k : Nat} {pos p : Pos} {e a b c t : Expr}
/-! ### an exception of the def that is called last -/
def tTop (K : PySem.W.Frag) (E : En) (n : Nat) (G : Cn) (e : Expr) : TE := fun σ H _ => ∃ s O g w c w', Frm E s σ H O g ∧ St3 K H O g w ∧ ev n G s e w = .exc c w' ∧ topB n G s e w = true ∧ ∀ H' O' g', Fm K E H O g w' s σ H' O' g' → E.W c σ H'
theorem okR_some {α : Type} {m : R α} (h : okR m = true) : ∃ x w, m = .ok x w := by
  cases m with
  | ok x w => exact ⟨x, w, rfl⟩
  | exc c w => cases h
  | bad => cases h
theorem callT_exc {T : Tab} {f : Str} {vs : List RV} {w w' : Wd} {c : Str} (h : callT T f vs w = .exc c w') : T f (vs.map RV.dat) w = .exc c w' := by
  unfold callT at h
  cases ht : T f (vs.map RV.dat) w with
  | ok r w2 =>
    rw [ht] at h
    simp only [R.bind_ok] at h
    split at h <;> cases h
  | exc c2 w2 => rw [ht] at h; exact h
  | bad => rw [ht] at h; cases h
/-- a def is run whose exceptions are wished with these slots -/
theorem run_out {f : Addr} {fd : FuncData} {ps : List Str} {sp : Sp} {pn : List (Addr × Obj)} {σ : L2.St} {H : Hp} {sh : Shared} {Q : VK} {W : WX} {xs : List V} {us : List Value} (F : FnOk X.prog X.w X.K X.mg X.base (L2.CX X.prog X.w) k f fd ps sp) (room : Room k X.A) (bd : Binds X.K fd ps []) (tk : Takes X W) (J : Inv X pn σ H sh) (rr : Vals xs us)
    (h : sp xs H Q fun cls d H' => W cls d σ H') : wpAny (model X.prog X.w) X.A (call (.ref f) us) (EP X pn σ Q) X.xe sh := by
  have len : us.length = ps.length := by rw [← rr.length]; exact F.len _ _ _ _ h
  have bb := bd sh us J.kIn (by rw [List.append_nil]; exact len)
  rw [List.append_nil] at bb
  refine wpAny_call (codeAny_mono (F.run X.A X.stack sh H ⟨us, []⟩ us xs Q _ room J.env0 bb rr h) fun r s' hq => ?_)
  match r, hq with
  | .error ex, hq => exact tk ex s' (XE.of_call J (fun _ _ _ z => z) hq)
  | .ok (.ret u), hq => exact J.after hq
  | .ok .next, hq => exact False.elim hq
  | .ok .brk, hq => exact False.elim hq
  | .ok .cont, hq => exact False.elim hq
/-- a class is called whose __init__'s exceptions are wished with these slots -/
theorem make_out {f C : Addr} {fd : FuncData} {ps : List Str} {sp : Sp} {pn : List (Addr × Obj)} {σ : L2.St} {H : Hp} {sh : Shared} {Q : VK} {W : WX} {vs : List V} {us : List Value} (M : Mk X.K C f) (F : FnOk X.prog X.w X.K X.mg X.base (L2.CX X.prog X.w) k f fd ps sp) (hr : Room (k + 1) X.A) (hb : Binds X.K fd ps []) (tk : Takes X W) (I : Inv X pn σ H sh) (r : Vals vs us)
    (h : ∀ x dx, H x = none → H dx = none → dx ≠ x → sp (.ref x :: vs) (upd (upd H dx (.own x)) x (.ins C dx [])) (fun v H2 => v = .non ∧ Q (.ref x) H2) fun cls d H' => W cls d σ H') : wpAny (model X.prog X.w) X.A (call (.ref C) us) (EP X pn σ Q) X.xe sh := by
  have hq := h (sh.heap.objs.size + 1) sh.heap.objs.size (I.hok.fresh (Nat.le_succ _)) (I.hok.fresh (Nat.le_refl _)) (Nat.ne_of_lt (Nat.lt_succ_self _))
  have I2 := Inv.made (C := C) I
  have r2 : Vals (V.ref (sh.heap.objs.size + 1) :: vs) (Value.ref (sh.heap.objs.size + 1) :: us) := .cons rfl r
  have hl : (Value.ref (sh.heap.objs.size + 1) :: us ++ []).length = ps.length := by
    have e := r2.length
    rw [F.len _ _ _ _ hq] at e
    rw [List.append_nil]
    exact e.symm
  have bb := hb _ (Value.ref (sh.heap.objs.size + 1) :: us) I2.kIn hl
  rw [List.append_nil] at bb
  refine wpAny_call (make_map (f := f) I.kIn M.makes M.init (beq_iff_eq.mp M.fn) (codeAny_mono (F.run _ X.stack _ _ ⟨Value.ref (sh.heap.objs.size + 1) :: us, []⟩ (Value.ref (sh.heap.objs.size + 1) :: us) _ _ _ (hr.make C us [])
    (I2.env0.make C us []) bb r2 hq) fun r s' hq' => ?_))
  cases r with
  | error e => exact tk e s' (XE.of_call I2 (fun _ _ _ z => z) hq')
  | ok fl =>
    cases fl with
    | ret u =>
      obtain ⟨v, H', I3, rv, ev, q3⟩ := I2.after hq'
      subst ev
      exact ⟨rv, ⟨V.ref (sh.heap.objs.size + 1), H', I3, rfl, q3⟩⟩
    | next => exact False.elim hq'
    | brk => exact False.elim hq'
    | cont => exact False.elim hq'
theorem isDget_bad {x m : Str} {px pa : Pos} {args : List Expr} {kws : List Keyword} {s : Sl} {q : Dct × Expr × Expr} (h : isDget G s (.Attribute (.Name x px) m pa) args kws = some q) {n : Nat} {w : Wd} : ev (n + 1) G s (.Name x px) w = .bad := by
  unfold isDget at h
  dsimp only at h
  split at h
  · split at h
    · simp only [Option.map_eq_some_iff] at h
      obtain ⟨⟨j, ps⟩, h1, _⟩ := h
      unfold isDct at h1
      dsimp only at h1
      show nameW G x s w = .bad
      unfold nameW
      cases hi : idx G.N x with
      | none => rw [hi] at h1; cases h1
      | some i =>
        rw [hi] at h1
        dsimp only at h1 ⊢
        split at h1
        · rename_i ds hs
          rw [hs]
          rfl
        · cases h1
    · cases h
  · cases h
theorem top_e : ∀ (n : Nat) {e : Expr}, GoodS X G k E → chk n G.N X.env.scope e = true → PE X e (tTop X.K E n G e)
  | 0, e, gd, hc => by simp [chk] at hc
  | n + 1, e, gd, hc => by
    have none_ : (∀ s w, topB (n + 1) G s e w = false) → PE X e (tTop X.K E (n + 1) G e) := fun h => ⟨fun pins sh σ H Q I ⟨s, O, g, w, c, w', _, _, _, ht, _⟩ => by rw [h] at ht; cases ht⟩
    cases e with
    | Call g args kws pos =>
      simp only [chk, Bool.and_eq_true, List.all_eq_true, List.isEmpty_iff] at hc
      obtain ⟨⟨hk, ha⟩, hg⟩ := hc
      subst hk
      cases g with
      | Name x px =>
        have hg : glB X.env.scope x = true := hg
        cases hd : G.dfn x with
        | false =>
          cases hmk : isMk G x with
          | false => exact none_ fun s w => by simp [topB, hd, hmk]
          | true =>
          obtain ⟨⟨hbn, rfl⟩, hwt⟩ : (bltTab.lookup x = none ∧ x = "Watcher") ∧ G.wt "Watcher.__init__" = true := by
            unfold isMk at hmk
            simp only [Bool.and_eq_true, decide_eq_true_eq, Option.isNone_iff_eq_none] at hmk
            exact hmk
          obtain ⟨g1, g3⟩ := gl_of hg
          have Wt := gd.wts ⟨_, hwt⟩
          obtain ⟨fa, fd, ps, M, hb, F⟩ := Wt.mak
          refine ⟨fun pins sh σ H Q J ⟨s, O, g, w, c, w', f, st, hv, ht, hW⟩ => ?_⟩
          have hv : (evsW (ev n G s) args w).bind (fun vs w => (match datS vs with
            | some ds => G.T "Watcher.__init__" ds w
            | none => .bad)) = .exc c w' := by
            have h2 : callW G (ev n G s) (.Name "Watcher" px) args [] w = .exc c w' := hv
            simp only [callW, hd, hbn, hwt, decide_true, Bool.and_true, if_true, Bool.false_eq_true, if_false] at h2
            exact h2
          have ht : okR (evsW (ev n G s) args w) = true := by
            have h2 : ((G.dfn "Watcher" || isMk G "Watcher") && okR (evsW (ev n G s) args w)) = true := ht
            rw [hd, hmk] at h2
            exact h2
          obtain ⟨vs, w1, hvs⟩ := okR_some ht
          rw [hvs] at hv
          simp only [R.bind_ok] at hv
          cases hds : datS vs with
          | none => rw [hds] at hv; cases hv
          | some ds =>
          rw [hds] at hv
          dsimp only at hv
          have spx : ∀ {H1 : Hp} {O1 : Os} {g1 : Gh} {xs : List V} {Q : VK}, Evo H O g H1 O1 g1 → St3 X.K H1 O1 g1 w1 → Paired (RepA g1 O1 H1) xs vs → ∀ x dx, H1 x = none → H1 dx = none → dx ≠ x → spI X.K (G.T "Watcher.__init__") (.ref x :: xs) (upd (upd H1 dx (.own x)) x (.ins (He.ga X.K "Watcher") dx [])) (fun v H2 => v = .non ∧ Q (.ref x) H2) fun cls d H' => E.wx cls d σ H' := fun {H1 O1 g1 xs Q} e1 s1 ra x dx nx nd ne => by
            refine ⟨x, dx, H1, xs, O1, g1, w1, ds, rfl, rfl, nx, nd, ne, s1, repAs_dat ra hds, ?_⟩
            rw [hv]
            exact fun H' O' g' e2 s2 => ⟨c, rfl, rfl, hW _ _ _ ⟨f.evo st (e1.trans e2), s2, (e1.trans e2).s st.wf⟩⟩
          refine wpAny_Call_Name_kw (ld_glob J g1 Wt.nm ?_ g3)
          cases args with
          | nil =>
            have e : vs = [] ∧ w1 = w := by
              have : (R.ok [] w : R (List RV)) = .ok vs w1 := hvs
              cases this
              exact ⟨rfl, rfl⟩
            obtain ⟨rfl, rfl⟩ := e
            exact PySem.W.callWith_K0 J.kIn M.kp (make_out (us := []) (vs := []) M F gd.room1 hb gd.tk J .nil (spx Evo.refl st .nil))
          | cons a as =>
            have hs : ∀ e ∈ a :: as, chk n G.N X.env.scope e = true := fun e he => (ha e he).1
            have A := sv_args (X := X) hs fun e he => (sound_e n gd.toGood (hs e he)).1
            refine PySem.W.callWith_K (h₀ := X.base) J.ok.mod.kin M.kp (thn (A.run pos pins sh σ H _ J (⟨s, O, g, w, f.sr, st, ?_⟩ : tA X.K n G (a :: as) σ H fun xs H1 => ∃ O1 g1, Evo H O g H1 O1 g1 ∧ St3 X.K H1 O1 g1 w1 ∧ Paired (RepA g1 O1 H1) xs vs)) fun us s1 ⟨xs, H1, J1, r1, q1⟩ => ⟨J1.kIn, ?_⟩) (star_of (hs a (by simp))) (plain_of fun e he => hs e (List.mem_cons_of_mem _ he))
            · rw [hvs]
              exact fun H1 O1 g1 e1 s1 xs ra => ⟨O1, g1, e1, s1, ra⟩
            · obtain ⟨O1, g1, e1, s1, ra⟩ := q1
              exact make_out M F gd.room1 hb gd.tk J1 r1 (spx e1 s1 ra)
        | true =>
          obtain ⟨g1, g3⟩ := gl_of hg
          obtain ⟨fa, fd, ps, g2, hk, hb, F⟩ := gd.dfn x hd
          refine ⟨fun pins sh σ H Q J ⟨s, O, g, w, c, w', f, st, hv, ht, hW⟩ => ?_⟩
          have hv : (evsW (ev n G s) args w).bind (fun vs w => callT G.T x vs w) = .exc c w' := by
            have h2 : callW G (ev n G s) (.Name x px) args [] w = .exc c w' := hv
            unfold callW at h2
            dsimp only at h2
            rw [if_pos hd] at h2
            exact h2
          have ht : okR (evsW (ev n G s) args w) = true := by
            have h2 : ((G.dfn x || isMk G x) && okR (evsW (ev n G s) args w)) = true := ht
            rw [hd] at h2
            exact h2
          obtain ⟨vs, w1, hvs⟩ := okR_some ht
          rw [hvs] at hv
          simp only [R.bind_ok] at hv
          have spx : ∀ {H1 : Hp} {O1 : Os} {g1 : Gh} {xs : List V} {Q : VK}, Evo H O g H1 O1 g1 → St3 X.K H1 O1 g1 w1 → Paired (RepA g1 O1 H1) xs vs → spT X.K (G.T x) xs H1 Q fun cls d H' => E.wx cls d σ H' := fun {H1 O1 g1 xs Q} e1 s1 ra => by
            refine call_spX (H0 := H1) (W := fun c' H' => E.W c' σ H') (fun c' H' z => ⟨c', rfl, rfl, z⟩) s1 (fun _ z => z) ra ?_
            rw [hv]
            exact fun H' O' g' e2 s2 => hW _ _ _ ⟨f.evo st (e1.trans e2), s2, (e1.trans e2).s st.wf⟩
          refine wpAny_Call_Name_kw (ld_glob J g1 g2 ?_ g3)
          cases args with
          | nil =>
            have e : vs = [] ∧ w1 = w := by
              have : (R.ok [] w : R (List RV)) = .ok vs w1 := hvs
              cases this
              exact ⟨rfl, rfl⟩
            obtain ⟨rfl, rfl⟩ := e
            exact PySem.W.callWith_K0 J.kIn hk (run_out (us := []) (xs := []) F gd.room hb gd.tk J .nil (spx Evo.refl st .nil))
          | cons a as =>
            have hs : ∀ e ∈ a :: as, chk n G.N X.env.scope e = true := fun e he => (ha e he).1
            have A := sv_args (X := X) hs fun e he => (sound_e n gd.toGood (hs e he)).1
            refine PySem.W.callWith_K (h₀ := X.base) J.ok.mod.kin hk (thn (A.run pos pins sh σ H _ J (⟨s, O, g, w, f.sr, st, ?_⟩ : tA X.K n G (a :: as) σ H fun xs H1 => ∃ O1 g1, Evo H O g H1 O1 g1 ∧ St3 X.K H1 O1 g1 w1 ∧ Paired (RepA g1 O1 H1) xs vs)) fun us s1 ⟨xs, H1, J1, r1, q1⟩ => ⟨J1.kIn, ?_⟩) (star_of (hs a (by simp))) (plain_of fun e he => hs e (List.mem_cons_of_mem _ he))
            · rw [hvs]
              exact fun H1 O1 g1 e1 s1 xs ra => ⟨O1, g1, e1, s1, ra⟩
            · obtain ⟨O1, g1, e1, s1, ra⟩ := q1
              exact run_out F gd.room hb gd.tk J1 r1 (spx e1 s1 ra)
      | Attribute o m pa =>
        cases o with
        | Name x px =>
          have hg : (nameB G.N X.env.scope x && (pa.endLine == pos.line)) = true := hg
          simp only [Bool.and_eq_true] at hg
          obtain ⟨hg, hl⟩ := hg
          cases n with
          | zero => exact none_ fun s w => rfl
          | succ n' =>
          have PO := (sound_e (n' + 1) gd.toGood (e := .Name x px) hg).1
          refine ⟨fun pins sh σ H Q J ⟨s, O, g, w, c, w', f, st, hv, ht, hW⟩ => ?_⟩
          have ht : (match ev (n' + 1) G s (.Name x px) w with
            | .ok y w1 => (spcK y).isSome && okR (evsW (ev (n' + 1) G s) args w1)
            | _ => false) = true := ht
          have hv : atW G (n' + 1) s (.Name x px) m args w = .exc c w' := by
            have h2 : (match isDget G s (.Attribute (.Name x px) m pa) args [] with
              | some (ps, a, b) => dgetW (ev (n' + 1) G s) ps a b w
              | none => callW G (ev (n' + 1) G s) (.Attribute (.Name x px) m pa) args [] w) = .exc c w' := hv
            cases hd : isDget G s (.Attribute (.Name x px) m pa) args [] with
            | none => rw [hd] at h2; exact h2
            | some q =>
              rw [isDget_bad hd] at ht
              cases ht
          unfold atW at hv
          cases ho : ev (n' + 1) G s (.Name x px) w with
          | bad => rw [ho] at ht; cases ht
          | exc c2 w2 => rw [ho] at ht; cases ht
          | ok rx w1 =>
          rw [ho] at ht hv
          simp only [R.bind_ok] at hv
          simp only [Bool.and_eq_true] at ht
          obtain ⟨hk, hok⟩ := ht
          obtain ⟨kk, hk⟩ := Option.isSome_iff_exists.mp hk
          have ex := spcK_some hk
          subst ex
          rw [hk] at hv
          dsimp only at hv
          obtain ⟨vs, w2, hvs⟩ := okR_some hok
          by_cases hw : (isWat w1[kk]? && decide (args.length ≤ 1)) = true
          · rw [if_pos hw] at hv
            simp only [Bool.and_eq_true, decide_eq_true_eq] at hw
            obtain ⟨hw, hlen⟩ := hw
            cases hz : wTab.lookup m with
            | none => rw [hz] at hv; cases hv
            | some z =>
            rw [hz] at hv
            dsimp only at hv
            by_cases hwt : G.wt z = true
            · rw [if_pos hwt, hvs] at hv
              simp only [R.bind_ok] at hv
              have Wt := gd.wts ⟨z, hwt⟩
              obtain ⟨fa, fd, ps, Mt, hb, F⟩ := (Wt.mt m z hz hwt).ex
              have obj : ∀ {H1 : Hp} {O1 : Os} {g1 : Gh} {v : V}, St3 X.K H1 O1 g1 w1 → Rep g1 O1 H1 v (.dict [(.int (.ofNat kk), .none)]) → ∃ ad dx fs, v = .ref ad ∧ H1 ad = some (.ins (He.ga X.K "Watcher") dx fs) ∧ fs.lookup m = none := fun {H1 O1 g1 v} s1 rv => by
                obtain ⟨sz, nm, nb, ns, hw⟩ := isWat_some hw
                cases rv with
                | spc hg =>
                  obtain ⟨wo, h1, h2⟩ := Paired.getL s1.wr.pr hg
                  rw [hw] at h1
                  cases h1
                  rename_i o
                  cases o with
                  | wat ad dx l =>
                    obtain ⟨t, h3, _⟩ := h2
                    exact ⟨ad, dx, _, rfl, h3, wTab_no hz⟩
                  | _ => exact h2.elim
              have spx : ∀ {H1 : Hp} {O1 : Os} {g1 : Gh} {v : V} {xs : List V} {Q : VK}, Evo H O g H1 O1 g1 → St3 X.K H1 O1 g1 w2 → Rep g1 O1 H1 v (.dict [(.int (.ofNat kk), .none)]) → Paired (RepA g1 O1 H1) xs vs → spT X.K (G.T z) (v :: xs) H1 Q fun cls d H' => E.wx cls d σ H' := fun {H1 O1 g1 v xs Q} e1 s1 rv ra => by
                refine call_spX (rs := .val (.dict [(.int (.ofNat kk), .none)]) :: vs) (H0 := H1) (W := fun c' H' => E.W c' σ H') (fun c' H' z => ⟨c', rfl, rfl, z⟩) s1 (fun _ z => z) (.cons rv ra) ?_
                rw [hv]
                exact fun H' O' g' e2 s2 => hW _ _ _ ⟨f.evo st (e1.trans e2), s2, (e1.trans e2).s st.wf⟩
              have start : tE X.K (n' + 1) G (.Name x px) σ H fun v H1 => ∃ O1 g1, Evo H O g H1 O1 g1 ∧ St3 X.K H1 O1 g1 w1 ∧ Rep g1 O1 H1 v (.dict [(.int (.ofNat kk), .none)]) := by
                refine ⟨s, O, g, w, f.sr, st, ?_⟩
                rw [ho]
                exact fun H1 O1 g1 e1 s1 v rv => ⟨O1, g1, e1, s1, rv⟩
              cases args with
              | nil =>
                have e : vs = [] ∧ w2 = w1 := by
                  have : (R.ok [] w1 : R (List RV)) = .ok vs w2 := hvs
                  cases this
                  exact ⟨rfl, rfl⟩
                obtain ⟨rfl, rfl⟩ := e
                refine PySem.W.methodCall_KW (thn (PO.run pins sh σ H _ J start) fun u s1 ⟨v, H1, I1, rv, O1, g1, e1, s1', rep1⟩ => ?_) (mcall_of base_name fun ov => mc_eq rfl hl)
                obtain ⟨ad, dx, fs, rfl, q1, q2⟩ := obj s1' rep1
                obtain rfl : u = Value.ref ad := rv
                refine getmeth_ok I1 q1 Wt.cl Mt q2 ?_
                exact PySem.W.callWith_K0 (first := [.ref ad]) I1.kIn Mt.kp (run_out (us := [.ref ad]) (xs := [.ref ad]) F gd.room hb gd.tk I1 (.cons rfl .nil) (spx e1 s1' rep1 .nil))
              | cons a as =>
                have hs : ∀ e ∈ a :: as, chk (n' + 1) G.N X.env.scope e = true := fun e he => (ha e he).1
                have A := sv_args (X := X) hs fun e he => (sound_e (n' + 1) gd.toGood (hs e he)).1
                have as0 : as = [] := List.eq_nil_of_length_eq_zero (by rw [List.length_cons] at hlen; omega)
                subst as0
                refine PySem.W.methodCall_KW (thn (PO.run pins sh σ H _ J start) fun u s1 ⟨v, H1, I1, rv, O1, g1, e1, s1', rep1⟩ => ?_) (mcall_of base_name fun ov => mc_eq (few_of (hs a (by simp))) hl)
                obtain ⟨ad, dx, fs, rfl, q1, q2⟩ := obj s1' rep1
                obtain rfl : u = Value.ref ad := rv
                refine getmeth_ok I1 q1 Wt.cl Mt q2 ?_
                refine PySem.W.callWith_K (first := [.ref ad]) (h₀ := X.base) J.ok.mod.kin Mt.kp (thn (A.run pos pins s1 σ H1 _ I1 (⟨s, O1, g1, w1, f.sr.evo st e1, s1', ?_⟩ : tA X.K (n' + 1) G [a] σ H1 fun xs H2 => ∃ O2 g2, Evo H1 O1 g1 H2 O2 g2 ∧ St3 X.K H2 O2 g2 w2 ∧ Paired (RepA g2 O2 H2) xs vs)) fun us s2 ⟨xs, H2, J2, r2, q2⟩ => ⟨J2.kIn, ?_⟩) (star_of (hs a (by simp))) (plain_of fun e he => hs e (List.mem_cons_of_mem _ he))
                · rw [hvs]
                  exact fun H2 O2 g2 e2 s2 xs ra => ⟨O2, g2, e2, s2, ra⟩
                · obtain ⟨O2, g2, e2, s2', ra⟩ := q2
                  exact run_out (us := .ref ad :: us) (xs := .ref ad :: xs) F gd.room hb gd.tk J2 (.cons rfl r2) (spx (e1.trans e2) s2' (s1'.rep e2 rep1) ra)
            · rw [if_neg hwt] at hv
              cases hv
          · rw [if_neg hw] at hv
            cases hv
        | _ => exact none_ fun s w => rfl
      | _ => exact none_ fun s w => rfl
    | IfExp t a b pos =>
      simp only [chk, Bool.and_eq_true] at hc
      obtain ⟨⟨⟨c1, c2⟩, c3⟩, c4⟩ := hc
      have PT := (sound_e n gd.toGood c1).2 c2
      refine (pe_ifExp PT (top_e n gd c3) (top_e n gd c4)).imp fun σ H Q ⟨s, O, g, w, c, w', f, st, hv, ht, hW⟩ => ?_
      have hv : ifW (ev n G s) t a b w = .exc c w' := hv
      have ht : (match ev n G s t w with
        | .ok (.val (.bool true)) w => topB n G s a w
        | .ok (.val (.bool false)) w => topB n G s b w
        | _ => false) = true := ht
      refine ⟨s, O, g, w, f.sr, st, ?_⟩
      unfold ifW at hv
      unfold tstW
      have fin : ∀ {x : Expr} {w1 : Wd} {H1 : Hp} {O1 : Os} {g1 : Gh}, Evo H O g H1 O1 g1 → St3 X.K H1 O1 g1 w1 → ((ev n G s x w1).bind fun y w => R.of ((frz y).map RV.val) w) = .exc c w' → topB n G s x w1 = true → tTop X.K E n G x σ H1 Q := fun {x w1 H1 O1 g1} e1 s1 h1 h2 => by
        refine ⟨s, O1, g1, w1, c, w', f.evo st e1, s1, ?_, h2, fun H' O' g' ⟨f2, s2, e2⟩ => hW _ _ _ ⟨f2, s2, (e1.s st.wf).trans e2⟩⟩
        cases hz : ev n G s x w1 with
        | ok y w2 =>
          rw [hz] at h1
          simp only [R.bind_ok] at h1
          cases hf : (frz y).map RV.val with
          | none => rw [hf] at h1; cases h1
          | some v => rw [hf] at h1; cases h1
        | exc c2 w2 => rw [hz] at h1; exact h1
        | bad => rw [hz] at h1; cases h1
      split at ht
      · rename_i w1 hx
        rw [hx] at hv ⊢
        exact fun H1 O1 g1 e1 s1 => fin e1 s1 hv ht
      · rename_i w1 hx
        rw [hx] at hv ⊢
        exact fun H1 O1 g1 e1 s1 => fin e1 s1 hv ht
      · cases ht
    | _ => exact none_ fun s w => rfl
/-- a statement whose exception is that of e: shown for its other ends -/
theorem ss_ctch {st0 : Stmt} {m : Sl → Wd → R Out} (old : PS X st0 (tX X.K E m))
    (new : PS X st0 (fun _ σ H => tTop X.K E evF G e σ H fun _ _ => False)) (hm : ∀ s w c w', m s w = .exc c w' → ev evF G s e w = .exc c w') : PS X st0 (tX X.K E fun s w => ctch G e s w (m s w)) := by
  refine ⟨fun pins sh σ H D I ⟨s, O, g, w, f, st, h⟩ => ?_⟩
  dsimp only at h
  unfold ctch at h
  cases hv : m s w with
  | ok o w1 =>
    refine old.run pins sh σ H D I ⟨s, O, g, w, f, st, ?_⟩
    rw [hv] at h ⊢
    exact h
  | bad => rw [hv] at h; exact (h : False).elim
  | exc c w1 =>
    rw [hv] at h
    dsimp only at h
    by_cases ht : topB evF G s e w = true
    · rw [if_pos ht] at h
      exact new.run pins sh σ H D I ⟨s, O, g, w, c, w1, f, st, hm _ _ _ _ hv, ht, fun H' O' g' q => h _ _ _ _ q⟩
    · rw [if_neg ht] at h
      exact (h : False).elim
theorem ss_ctch0 {st0 : Stmt} {m : Sl → Wd → R Out} (old : PS X st0 (tX X.K E m)) (h0 : ∀ s w, topB evF G s e w = false) : PS X st0 (tX X.K E fun s w => ctch G e s w (m s w)) := by
  refine old.imp fun D σ H ⟨s, O, g, w, f, st, h⟩ => ⟨s, O, g, w, f, st, ?_⟩
  dsimp only at h
  unfold ctch at h
  cases hv : m s w with
  | ok o w1 => rw [hv] at h; exact h
  | bad => rw [hv] at h; exact h
  | exc c w1 =>
    rw [hv] at h
    dsimp only at h
    rw [h0, if_neg Bool.false_ne_true] at h
    exact h
/-! ### raise -/
theorem ss_raise {x m : Str} {j : Nat} {px p2 p3 : Pos} (gd : GoodS X G k E) (hx : glB X.env.scope x = true) : PS X (.Raise (some (.Call (.Name x px) [.Constant (.str m) j p2] [] p3)) none pos) (tX X.K E fun s w => raisW G (some (.Call (.Name x px) [.Constant (.str m) j p2] [] p3)) none s w) := by
  obtain ⟨g1, g3⟩ := gl_of hx
  cases hl : G.xs x with
  | none => exact ⟨fun pins sh σ H D I ⟨s, O, g, w, f, st, h⟩ => by
      simp only [raisW, hl, Option.isSome_none] at h
      exact (h : False).elim⟩
  | some l =>
    have ok := gd.xcl x l hl
    refine (ps_raise gd.calm gd.tk (pmk_own PySem.F.excBase_ValueError ok.q ok.m ok.kp (raises_own ok.sb ok.ty) g1 g3)).imp fun D σ H ⟨s, O, g, w, f, st, h⟩ => ?_
    simp only [raisW, hl, Option.isSome_some, if_true] at h
    exact ⟨x, rfl, rfl, h _ _ _ _ ⟨f, st, EvoS.refl⟩⟩
end
end TM

namespace TM
open PySem PySem.Spec PyProof.Rows L2
variable [CNm]
/-! ### an exception that is kept behind its clause -/
section
variable {X : Cx} {pn : List (Addr × Obj)} {σ : L2.St} {H : Hp} {sh : Shared}
theorem exz_ok {P : Program} {w : World} {H : Hp} {h : Heap} {a C : Addr} {ob : Obj} {vs : Array Value} (e : h.get? a = some ob) (z : Zc (.ref C) none ob) (d : ob.data = .fields vs) : ObjOk P w H h a (ExZ C a) :=
  ⟨⟨ob, vs, e, z, d⟩, ⟨ob, e⟩, fun _ _ ⟨o, v, q, r⟩ k => ⟨o, v, k o q, r⟩⟩
theorem repin {pn2 : List (Addr × Obj)} (J : Inv X pn σ H sh) (h : ∀ q ∈ X.pn ++ pn2, sh.heap.get? q.1 = some q.2 ∧ H q.1 = none ∧ q.1 ≠ X.env.locals ∧ q.1 ∉ X.fs ∧ ∀ v, q.2.data ≠ .cell v) : Inv X pn2 σ H sh := { J with pin := h }
/-- the object of a caught exception is tracked from now on -/
theorem track {a C : Addr} {ob : Obj} {vs : Array Value} (J : Inv X pn σ H sh) (e : sh.heap.get? a = some ob) (na : H a = none) (nl : a ≠ X.env.locals) (z : Zc (.ref C) none ob) (d : ob.data = .fields vs) (n0 : X.s_0.heap.get? a = none) (np : ∀ q ∈ X.pn ++ pn, q.1 ≠ a) : Inv X pn σ (upd H a (ExZ C a)) sh := by
  have some_ne : ∀ {b : Addr} {u : HO}, H b = some u → upd H a (ExZ C a) b = some u := fun {b u} q => by rw [upd_ne (ne_of_none q na)]; exact q
  have free_ne : ∀ {b : Addr}, b ≠ a → H b = none → upd H a (ExZ C a) b = none := fun {b} q r => by rw [upd_ne q]; exact r
  have U := J.base
  refine { J with base := ?_, free := free_ne (Ne.symm nl) J.free, freeC := fun x c ec => ?_, pin := fun q hq => ?_, hok := fun b u hb => ?_ }
  · refine { keep := U.keep, slot := U.slot, there := U.there, free := fun b o h1 h2 h3 => ?_, tups := fun b xs q => some_ne (U.tups b xs q), frzs := fun b o u q => some_ne (U.frzs b o u q), tbls := fun b ps q => ?_ }
    · exact free_ne (fun y => by rw [y, n0] at h1; cases h1) (U.free b o h1 h2 h3)
    · obtain ⟨m, y⟩ := U.tbls b ps q
      exact ⟨m, some_ne y⟩
  · refine free_ne (fun y => ?_) (J.freeC x c ec)
    obtain ⟨v, o, ho, hd⟩ := J.cell x c ec
    rw [y, e] at ho
    cases ho
    rw [d] at hd
    cases hd
  · obtain ⟨p1, p2, p3⟩ := J.pin q hq
    exact ⟨p1, free_ne (np q hq) p2, p3⟩
  · by_cases y : b = a
    · subst y
      rw [upd_same] at hb
      cases hb
      exact exz_ok e z d
    · rw [upd_ne y] at hb
      exact (J.hok b u hb).stay (fun _ _ _ q => q) (fun c q => some_ne q) fun c xs q => some_ne q
end
/-- what a clause wishes that keeps the exception -/
def wKeep (K : PySem.W.Frag) (c : Value) (i j : Nat) (D : Ends) : WX := fun cls d σ H => ∃ C, cls = .ref C ∧ d = none ∧ PySem.W.exmOne K cls c = some true ∧ ∀ a, H a = none → D.nx (((σ.set i (some (.ref a))).set j (some (.ref a))).set i none) (upd H a (ExZ C a))
section
variable {X : Cx} {x n m : Str} {c : Value} {i j : Nat} {body : List Stmt} {np mp np2 ap pos pos2 : Pos} {tb : WX → TS}
theorem ps_try_keep (stk : X.stack = X.env :: X.outer) (frm : X.env.frame = some X.env.locals) (ex0 : X.ex = []) (nd : X.N.Nodup) (gi : X.N[i]? = some n) (li : X.env.scope.names.lookup n = some .local) (gj : X.N[j]? = some m) (lj : X.env.scope.names.lookup m = some .local) (nm : Names X x c)
    (db : (n == ("__debug__" : Str)) = false) (dc : (n == ("__classdict__" : Str)) = false)
    (hb : ∀ (W : WX) (pn : List (Addr × Obj)) (xe : Value → Shared → Prop), Takes (X.tr pn xe) W → PassesOwn (model X.prog X.w) X.A X.env xe → PSs (X.tr pn xe) body (tb W)) :
    PS X (.Try body [.ExceptHandler (some (.Name x np)) (some n) [.Assign [.Name m mp] (.Name n np2) ap] pos2] [] [] pos) (fun D σ H => tb (wKeep X.K c i j D) D σ H) := by
  refine ⟨fun pn sh σ H D I h => ?_⟩
  have ok := I.ok
  have fr : X.A.frames = some (X.env :: X.outer) := by rw [ok.frames, stk]
  have ki : X.env.kindOf n = some .local := li
  refine wpAny_Try_except ?_
  have tk : Takes (X.tr (X.pn ++ pn) fun ev s1 => wpAny (model X.prog X.w) X.A (noteFrame ev X.env) (fun _ s2 => wpAny (model X.prog X.w) X.A (setFlight ev none) (fun _ s3 => wpAny (model X.prog X.w) X.A (handleBy ev X.env [.ExceptHandler (some (.Name x np)) (some n) [.Assign [.Name m mp] (.Name n np2) ap] pos2]) (SP X pn D) X.xe s3) X.xe s2) X.xe s1) (wKeep X.K c i j D) := by
    intro u s1 hx
    obtain ⟨a, B, sI, pn1, σ1, H1, cls, d, rfl, J1, nb, up, sky, na, os, ag, C, rfl, rfl, hm, go⟩ := hx
    have J : Inv X pn σ1 H1 sI := J1.ofTry ok
    have sky2 : Sky B (X.env :: X.outer) a (Zc (.ref C) none) X.env.locals s1.heap := by rw [← stk]; exact sky
    show wpAny (model X.prog X.w) X.A (noteFrame (.ref a) X.env) _ X.xe s1
    refine Sky.land Zc.steady fr frm sky2 fun h3 fl3 up3 => ?_
    have J3 : Inv X pn σ1 H1 { s1 with heap := h3 } := J.landed nb fl3.1 (up.trans up3) os ag
    obtain ⟨o3, v3, g3, z3, d3⟩ := fl3.there
    have nfr : a ∉ frs (X.env :: X.outer) := fun q => by
      obtain ⟨_, o', g', nf⟩ := fl3.2.2.1.mem q
      rw [g3] at g'
      cases g'
      exact nf _ d3
    have nL : a ≠ X.env.locals := fun q => nfr (List.mem_filterMap.mpr ⟨X.env, List.mem_cons_self, by rw [frm, q]⟩)
    have nF : a ∉ X.fs := fun q => by
      obtain ⟨ee, he, q2⟩ := List.mem_filterMap.mp q
      exact nfr (List.mem_filterMap.mpr ⟨ee, List.mem_cons_of_mem _ he, q2⟩)
    have nI : sI.heap.get? a = none := by
      cases q : sI.heap.get? a with
      | none => rfl
      | some o =>
        have z := nb a o q (by rw [stk]; exact nfr)
        rw [fl3.2.1] at z
        cases z
    have n0 : X.s_0.heap.get? a = none := by
      cases q : X.s_0.heap.get? a with
      | none => rfl
      | some o =>
        obtain ⟨o', z⟩ := J.base.there a o q (by rw [ex0]; exact fun y => nomatch y)
        rw [nI] at z
        cases z
    have nP : ∀ q ∈ X.pn ++ pn, q.1 ≠ a := fun q hq y => by
      have z := (J.pin q hq).1
      rw [y, nI] at z
      cases z
    have S3 := J3.suite g3 d3 na nL nF
    refine wpAny_handleBy_cons (codeAny_handlers_test ?_) (by intro q; cases q)
    have look : PySem.W.Looks (model X.prog X.w) h3 (typeOf (.ref a)) (.ref C) := fun A' Q' E' s' k' q' => wpAny_typeOf_ref (k' _ _ g3) (by rw [z3.1]; exact q')
    have yes := PySem.W.exm_one (M := model X.prog X.w) J3.kIn look hm
    have tst : ∀ {Q : Value → Shared → Prop} {E : Value → Shared → Prop}, Q c { s1 with heap := h3 } → wpAny (model X.prog X.w) (X.A.mark (some (.ref a))) (eval (.Name x np) X.env) Q E { s1 with heap := h3 } := fun {Q E} q => by
      rcases nm with ⟨ng, nb', hq⟩
      rcases hq with hq | ⟨hq, hv, hn⟩
      · exact ld_glob (X := X.suite a ((a, o3) :: (X.pn ++ pn))) S3 ng hq q nb'
      · exact ld_blt (X := X.suite a ((a, o3) :: (X.pn ++ pn))) S3 ng hq hv q hn nb'
    refine tst (yes.here ?_)
    refine codeAny_handlers_suite_as ?_
    refine HandSPX.lands_againZ fl3 fun h4 fl4 up4 => ?_
    have J4 : Inv X pn σ1 H1 { s1 with heap := h4 } := J.landed nb fl4.1 ((up.trans up3).trans up4) os ag
    obtain ⟨o4, v4, g4, z4, d4⟩ := fl4.there
    have S4 := J4.suite g4 d4 na nL nF
    refine store_ok (X := X.suite a ((a, o4) :: (X.pn ++ pn))) (v := .ref a) S4 nd gi (.inl li) rfl (fun s5 S5 => ?_) (.inr li)
    have il : i < σ1.length := by rw [J4.len]; exact (List.getElem?_eq_some_iff.mp gi).1
    have pv := pe_var (X := X.suite a ((a, o4) :: (X.pn ++ pn))) (pos := np2) gi (.inl li) db dc
    have ps := pss_one (ps_set (X := X.suite a ((a, o4) :: (X.pn ++ pn))) (pos := ap) (pos' := mp) nd gj (.inl lj) pv rfl (.inr lj))
    have rd : tAsg (tVar i) (gName j) { nx := fun σ6 H6 => σ6 = (σ1.set i (some (.ref a))).set j (some (.ref a)) ∧ H6 = H1, rt := fun _ _ => False, bk := fun _ _ => False, ct := fun _ _ => False } (σ1.set i (some (.ref a))) H1 := ⟨.ref a, by rw [List.getElem?_set_self il], rfl, rfl⟩
    refine wpAny_mono (ps.run [] s5 _ H1 _ S5 rd) (fun f s6 hsp => ?_) (fun _ _ z => False.elim z)
    cases f with
    | next =>
      obtain ⟨σ6, H6, S6, y1, y2⟩ := hsp
      subst y1 y2
      have hin : ∀ q ∈ X.pn ++ ((a, o4) :: pn), q ∈ ((a, o4) :: (X.pn ++ pn)) ++ [] := fun q hq => by
        rw [List.append_nil]
        rcases List.mem_append.mp hq with y | y
        · exact List.mem_cons_of_mem _ (List.mem_append_left _ y)
        · rcases List.mem_cons.mp y with y | y
          · rw [y]; exact List.mem_cons_self
          · exact List.mem_cons_of_mem _ (List.mem_append_right _ y)
      have U6 : Inv X pn _ H6 s6 := S6.unsuite ok
      have K6 := repin U6 (fun q hq => S6.pin q (hin q hq))
      refine gone_ok (pos := pos2) K6 nd gi ki fun s7 K7 => ?_
      obtain ⟨k1, k2, k3, _⟩ := K7.pin (a, o4) (List.mem_append_right _ List.mem_cons_self)
      have K8 : Inv X pn _ H6 s7 := repin K7 fun q hq => K7.pin q (by
        rcases List.mem_append.mp hq with y | y
        · exact List.mem_append_left _ y
        · exact List.mem_append_right _ (List.mem_cons_of_mem _ y))
      exact ⟨_, _, track K8 k1 k2 k3 z4 d4 n0 nP, go a na⟩
    | brk =>
      obtain ⟨_, _, _, z⟩ := hsp
      exact z.elim
    | cont =>
      obtain ⟨_, _, _, z⟩ := hsp
      exact z.elim
    | ret u =>
      obtain ⟨_, _, _, _, _, z⟩ := hsp
      exact z.elim
  refine wpAny_mono ((hb (wKeep X.K c i j D) (X.pn ++ pn) _ tk PassesOwn.looking).run [] sh σ H D (I.toTry _) h) (fun f s1 hsp => ?_) (fun ev s1 z => z)
  cases f with
  | next =>
    obtain ⟨σ1, H1, J1, q⟩ := hsp
    exact wpAny_execs_nil ⟨σ1, H1, J1.ofTry ok, q⟩
  | brk =>
    obtain ⟨σ1, H1, J1, q⟩ := hsp
    exact ⟨σ1, H1, J1.ofTry ok, q⟩
  | cont =>
    obtain ⟨σ1, H1, J1, q⟩ := hsp
    exact ⟨σ1, H1, J1.ofTry ok, q⟩
  | ret u =>
    obtain ⟨v, σ1, H1, J1, r, q⟩ := hsp
    exact ⟨v, σ1, H1, J1.ofTry ok, r, q⟩
end
section
variable {X : Cx} {G : Cn} {E : En} {n k : Nat} {pos p : Pos} {e a b c t : Expr}
theorem SRep.setN {g : Gh} {O : Os} {H : Hp} {σ : L2.St} {s : Sl} (sr : SRep g O H σ s) (i : Nat) : SRep g O H (σ.set i none) (s.set i none) := by
  have at1 : ∀ {j : Nat} {r : RV}, (s.set i none)[j]? = some (some r) → i ≠ j ∧ s[j]? = some (some r) := fun {j r} h => by
    by_cases e : i = j
    · subst e
      have hl : i < s.length := by
        have := (List.getElem?_eq_some_iff.mp h).1
        simpa using this
      rw [List.getElem?_set_self hl] at h
      cases h
    · rw [List.getElem?_set_ne e] at h
      exact ⟨e, h⟩
  refine ⟨by rw [List.length_set, List.length_set]; exact sr.len, fun j r h => ?_, fun j1 j2 x d1 d2 hj h1 h2 h3 => ?_, fun j1 j2 d1 d2 h1 h2 => sr.ad j1 j2 d1 d2 (at1 h1).2 (at1 h2).2⟩
  · obtain ⟨n, q⟩ := at1 h
    obtain ⟨v, k1, k2⟩ := sr.at' j r q
    exact ⟨v, by rw [List.getElem?_set_ne n]; exact k1, k2⟩
  · obtain ⟨n1, q1⟩ := at1 h1
    obtain ⟨n2, q2⟩ := at1 h2
    rw [List.getElem?_set_ne n1] at h3
    rw [List.getElem?_set_ne n2]
    exact sr.ap j1 j2 x d1 d2 hj q1 q2 h3
theorem Frm.setN {s : Sl} {σ : L2.St} {H : Hp} {O : Os} {g : Gh} (f : Frm E s σ H O g) (i : Nat) : Frm E (s.set i none) (σ.set i none) H O g := by
  refine ⟨f.sr.setN i, f.ev, fun j ds a h1 h2 => ?_, fun j ds a h1 h2 => ?_⟩
  · by_cases e : i = j
    · subst e
      have hl : i < s.length := by
        have := (List.getElem?_eq_some_iff.mp h1).1
        simpa using this
      rw [List.getElem?_set_self hl] at h1
      cases h1
    · rw [List.getElem?_set_ne e] at h1 h2
      exact f.fr j ds a h1 h2
  · by_cases e : i = j
    · subst e
      have hl : i < s.length := by
        have := (List.getElem?_eq_some_iff.mp h1).1
        simpa using this
      rw [List.getElem?_set_self hl] at h1
      cases h1
    · rw [List.getElem?_set_ne e] at h1 h2
      exact f.fd j ds a h1 h2
/-- the frame, other exceptions wished -/
theorem Frm.w {s : Sl} {σ : L2.St} {H : Hp} {O : Os} {g : Gh} {W : Str → L2.St → Hp → Prop} (f : Frm E s σ H O g) : Frm { E with W := W } s σ H O g := ⟨f.sr, f.ev, f.fr, f.fd⟩
theorem Frm.ofw {s : Sl} {σ : L2.St} {H : Hp} {O : Os} {g : Gh} {W : Str → L2.St → Hp → Prop} (f : Frm { E with W := W } s σ H O g) : Frm E s σ H O g := ⟨f.sr, f.ev, f.fr, f.fd⟩
theorem GoodS.tr (gd : GoodS X G k E) {W : WX} {pn : List (Addr × Obj)} {xe : Value → Shared → Prop} (tk : Takes (X.tr pn xe) W) (po : PassesOwn (model X.prog X.w) X.A X.env xe) : GoodS (X.tr pn xe) G k { E with W := fun c σ H => W (.ref (CNm.nm c)) none σ H } :=
  { calm := gd.calm, nd := gd.nd, N := gd.N, kind := gd.kind, room1 := gd.room1, dfn := gd.dfn, blt := gd.blt, ty := gd.ty, xcl := gd.xcl, mve := gd.mve, wts := gd.wts, cst := gd.cst, po := po, wE := gd.wE, fn := gd.fn, stk := gd.stk, frm := gd.frm, ex0 := gd.ex0,
    tk := tk.imp fun cls d σ H ⟨c, e1, e2, h⟩ => by subst e1 e2; exact h }
theorem ss_try {x nn m : Str} {np mp np2 ap pos2 : Pos} {body : List Stmt} {f : Stmt → Sl → Wd → R Out} {i j : Nat} (gd : GoodS X G k E) (hx : glB X.env.scope x = true) (hxs : (G.xs x).isSome = true) (hi : idx G.N nn = some i) (hj : idx G.N m = some j) (li : X.env.scope.names.lookup nn = some .local) (lj : X.env.scope.names.lookup m = some .local) (db : (nn == ("__debug__" : Str)) = false) (dc : (nn == ("__classdict__" : Str)) = false)
    (hb : ∀ {X' : Cx} {E' : En}, X'.K = X.K → X'.env = X.env → GoodS X' G k E' → PSs X' body (tX X'.K E' (execs f body))) :
    PS X (.Try body [.ExceptHandler (some (.Name x np)) (some nn) [.Assign [.Name m mp] (.Name nn np2) ap] pos2] [] [] pos) (tX X.K E fun s w => tryW G x nn m (execs f body s w)) := by
  obtain ⟨lx, hlx⟩ := Option.isSome_iff_exists.mp hxs
  have okx := gd.xcl x lx hlx
  obtain ⟨g1, g3⟩ := gl_of hx
  refine (ps_try_keep (i := i) (j := j) (c := .ref (CNm.nm x)) gd.stk gd.frm gd.ex0 gd.nd (by rw [gd.N]; exact idx_get hi) li (by rw [gd.N]; exact idx_get hj) lj ⟨g1, g3, .inl okx.m⟩ db dc
    (tb := fun W => tX X.K { E with W := fun c σ H => W (.ref (CNm.nm c)) none σ H } (execs f body)) fun W pn xe tk po => hb rfl rfl (gd.tr tk po)).imp fun D σ H ⟨s, O, g, w, fr, st, h⟩ => ⟨s, O, g, w, fr.w, st, ?_⟩
  dsimp only at h
  cases hv : execs f body s w with
  | exc c w1 => rw [hv] at h; exact h
  | bad => rw [hv] at h; exact h
  | ok o w1 =>
    rw [hv] at h
    cases o with
    | nxt s1 => exact fun σ' H' O' g' ⟨f', st', e'⟩ => h _ _ _ _ ⟨f'.ofw, st', e'⟩
    | brk s1 => exact fun σ' H' O' g' ⟨f', st', e'⟩ => h _ _ _ _ ⟨f'.ofw, st', e'⟩
    | cnt s1 => exact fun σ' H' O' g' ⟨f', st', e'⟩ => h _ _ _ _ ⟨f'.ofw, st', e'⟩
    | ret v => exact h
    | rs c s1 =>
      simp only [tryW] at h
      cases hxc : G.xs c with
      | none => rw [hxc] at h; exact (h : False).elim
      | some l =>
        rw [hxc, hi, hj] at h
        dsimp only at h
        have ok := gd.xcl c l hxc
        by_cases hc : (l.contains x && !decide (i = j)) = true
        · rw [if_pos hc] at h
          simp only [Bool.and_eq_true, Bool.not_eq_true', decide_eq_false_iff_not] at hc
          intro σ' H' O' g' ⟨f', st', e'⟩
          refine ⟨CNm.nm c, rfl, rfl, by rw [ok.is x hxs, hc.1], fun a na => ?_⟩
          have e2 := Evo.newTup (o := ExZ (CNm.nm c) a) st'.wf na
          have s2 := st'.newTup (o := ExZ (CNm.nm c) a) na
          have f2 := f'.ofw.evo st' e2
          have rp : Rep g' O' (upd H' a (ExZ (CNm.nm c) a)) (.ref a) (exd c) := .exc upd_same (st'.wf.fresh na).1
          have f3 := (f2.setV j rp).setN i
          have hσ : (((σ'.set i (some (.ref a))).set j (some (.ref a))).set i none) = (σ'.set j (some (.ref a))).set i none := by
            rw [List.set_comm _ _ hc.2, List.set_set]
          rw [hσ]
          exact h _ _ _ _ ⟨f3, s2, e'.trans (e2.s st'.wf)⟩
        · rw [if_neg hc] at h
          exact (h : False).elim
end
end TM

namespace TM
open PySem PySem.Spec PyProof.Rows L2
variable [CNm]
/-! ### the watchers' objects -/
theorem adr_apart2 : ∀ {g : Gh} {j k : Nat} {o o' : GO}, (g.flatMap GO.adr).Nodup → g[j]? = some o → g[k]? = some o' → j ≠ k → ∀ x ∈ o.adr, x ∉ o'.adr
  | [], j, k, o, o', _, h, _, _, x, hx, _ => by simp at h
  | p :: g, 0, 0, o, o', _, _, _, h, _, _, _ => absurd rfl h
  | p :: g, 0, k + 1, o, o', nd, h1, h2, _, x, hx, hy => by
    simp at h1 h2
    subst h1
    rw [List.flatMap_cons, List.nodup_append] at nd
    exact nd.2.2 x hx x (List.mem_flatMap.mpr ⟨o', List.mem_of_getElem? h2, hy⟩) rfl
  | p :: g, j + 1, 0, o, o', nd, h1, h2, _, x, hx, hy => by
    simp at h1 h2
    subst h2
    rw [List.flatMap_cons, List.nodup_append] at nd
    exact nd.2.2 x hy x (List.mem_flatMap.mpr ⟨o, List.mem_of_getElem? h1, hx⟩) rfl
  | p :: g, j + 1, k + 1, o, o', nd, h1, h2, h, x, hx, hy => by
    simp at h1 h2
    rw [List.flatMap_cons, List.nodup_append] at nd
    exact adr_apart2 nd.2.1 h1 h2 (by omega) x hx hy
theorem nd_two : ∀ {g : Gh} {o : GO}, (g.flatMap GO.adr).Nodup → o ∈ g → o.adr.Nodup
  | p :: g, o, nd, h => by
    rw [List.flatMap_cons, List.nodup_append] at nd
    rcases List.mem_cons.mp h with e | e
    · subst e; exact nd.1
    · exact nd_two nd.2.1 e
theorem Paired.setR2 {α β : Type} {F G : α → β → Prop} : ∀ {l : List α} {m : List β} {k : Nat} {y : β}, Paired F l m → (∀ j a b, j ≠ k → l[j]? = some a → m[j]? = some b → F a b → G a b) → (∀ a, l[k]? = some a → G a y) → Paired G l (m.set k y)
  | _, _, _, _, .nil, _, _ => .nil
  | _, _, 0, y, .cons r t, h1, h2 => .cons (h2 _ rfl) (Paired.imp2 t fun j a b ha hb f => h1 (j + 1) a b (by omega) (by simpa using ha) (by simpa using hb) f)
  | _, _, k + 1, y, .cons r t, h1, h2 => .cons (h1 0 _ _ (by omega) rfl rfl r) (Paired.setR2 t (fun j a b hj ha hb f => h1 (j + 1) a b (by omega) (by simpa using ha) (by simpa using hb) f) fun a ha => h2 a (by simpa using ha))
where
  Paired.imp2 {α β : Type} {F G : α → β → Prop} : ∀ {l : List α} {m : List β}, Paired F l m → (∀ j a b, l[j]? = some a → m[j]? = some b → F a b → G a b) → Paired G l m
  | _, _, .nil, _ => .nil
  | _, _, .cons r t, h => .cons (h 0 _ _ rfl rfl r) (Paired.imp2 t fun j a b ha hb f => h (j + 1) a b (by simpa using ha) (by simpa using hb) f)
/-- the line of a watcher is changed -/
theorem St3.setW {K : PySem.W.Frag} {H : Hp} {O : Os} {g : Gh} {w : Wd} {k : Nat} {a dx l : Addr} {sz nb : Int} {nm : Str} {ns ns' : List Int} (st : St3 K H O g w) (hg : g[k]? = some (.wat a dx l)) (hw : w[k]? = some (.wat sz nm nb ns)) :
    Evo H O g (upd H l (.lst (ns'.map V.int))) O g ∧ St3 K (upd H l (.lst (ns'.map V.int))) O g (w.set k (.wat sz nm nb ns')) := by
  have wl : WA g l := ⟨_, List.mem_of_getElem? hg, by simp [GO.adr]⟩
  have there : ∀ x, H x ≠ none → upd H l (.lst (ns'.map V.int)) x ≠ none := fun x h => by
    by_cases h1 : x = l
    · rw [h1, upd_same]; simp
    · rw [upd_ne h1]; exact h
  have ne : ∀ x, ¬ WA g x → x ≠ l := fun x n z => n (by rw [z]; exact wl)
  obtain ⟨wo, hwo, W⟩ := Paired.getL st.wr.pr hg
  rw [hw] at hwo
  cases hwo
  obtain ⟨t, w1, w2, w3, w4⟩ := W
  have nd := nd_two st.wr.nd (List.mem_of_getElem? hg)
  simp only [GO.adr, List.nodup_cons, List.mem_cons, List.not_mem_nil, or_false, not_or] at nd
  refine ⟨⟨fun x o h n => by rw [upd_ne (ne x n)]; exact h, there, fun _ z => z, fun _ z => .inl z, List.prefix_refl _, fun _ z => .inl z⟩, ⟨st.wf.wao, fun x z => there x (st.wf.oal x z), fun x z vs => ?_⟩, ⟨?_, st.wr.nd⟩⟩
  · by_cases h1 : x = l
    · rw [h1, upd_same]; intro e; cases e
    · rw [upd_ne h1]; exact st.wf.ot x z vs
  · refine Paired.setR2 st.wr.pr (fun j o y hj h1 h2 h => ?_) fun o h => ?_
    · have ap := adr_apart2 st.wr.nd h1 hg hj
      have nl : ∀ x ∈ o.adr, x ≠ l := fun x hx z => ap x hx (by rw [z]; simp [GO.adr])
      cases o with
      | drw p q => cases y with
        | drw ms d => exact ⟨by rw [upd_ne (nl p (by simp [GO.adr]))]; exact h.1, by rw [upd_ne (nl q (by simp [GO.adr]))]; exact h.2⟩
        | _ => exact h.elim
      | scr p => cases y with
        | scr ms =>
          refine h.elim (fun ⟨ob, q⟩ => .inl ⟨ob, ?_⟩) .inr
          rw [upd_ne (fun z => by rw [z, w4] at q; cases q)]
          exact q
        | _ => exact h.elim
      | wat p q r => cases y with
        | wat sz2 nm2 nb2 ms =>
          obtain ⟨t2, h3, h4, h5, h6⟩ := h
          exact ⟨t2, by rw [upd_ne (nl p (by simp [GO.adr]))]; exact h3, by rw [upd_ne (nl q (by simp [GO.adr]))]; exact h4, by rw [upd_ne (fun z => by rw [z, w4] at h5; cases h5)]; exact h5, by rw [upd_ne (nl r (by simp [GO.adr]))]; exact h6⟩
        | _ => exact h.elim
    · rw [hg] at h
      cases h
      exact ⟨t, by rw [upd_ne (fun z => nd.1.2 z)]; exact w1, by rw [upd_ne (fun z => nd.2.1 z)]; exact w2, by rw [upd_ne (fun z => by rw [z, w4] at w3; cases w3)]; exact w3, upd_same⟩
/-- a new watcher, made since H1 -/
theorem St3.addW {K : PySem.W.Frag} {H1 H H' : Hp} {O1 O : Os} {g1 g : Gh} {w : Wd} {a dx l : Addr} {sz nb : Int} {nm : Str} (e : Evo H1 O1 g1 H O g) (st : St3 K H O g w)
    (nn : ∀ x, (x = a ∨ x = dx ∨ x = l) → H1 x = none ∧ ¬ O x ∧ (∀ vs, H x ≠ some (.tup vs)) ∧ ∀ o u, H x ≠ some (.frz o u)) (had : a ≠ dx) (hal : a ≠ l) (hdl : dx ≠ l)
    (hW : W1 K H' (.wat a dx l) (.wat sz nm nb [])) (ho : ∀ x o, H x = some o → ¬ (x = a ∨ x = dx ∨ x = l) → H' x = some o) :
    Evo H1 O1 g1 H' (fun x => O x ∨ x = a ∨ x = dx ∨ x = l) (g ++ [.wat a dx l]) ∧ St3 K H' (fun x => O x ∨ x = a ∨ x = dx ∨ x = l) (g ++ [.wat a dx l]) (w ++ [.wat sz nm nb []]) := by
  have wsp : ∀ x, WA (g ++ [.wat a dx l]) x → WA g x ∨ (x = a ∨ x = dx ∨ x = l) := fun x ⟨o, ho, hx⟩ => by
    rcases List.mem_append.mp ho with h | h
    · exact .inl ⟨o, h, hx⟩
    · simp only [List.mem_singleton] at h
      subst h
      simp only [GO.adr, List.mem_cons, List.not_mem_nil, or_false] at hx
      exact .inr hx
  have new : ∀ x, (x = a ∨ x = dx ∨ x = l) → ∃ u, H' x = some u ∧ ∀ vs, u ≠ .tup vs := fun x hx => by
    obtain ⟨u, h1, h2, _⟩ := hW.nt x (by simpa [GO.adr] using hx)
    exact ⟨u, h1, h2⟩
  have still : ∀ x, H x ≠ none → H' x ≠ none := fun x h => by
    by_cases hx : x = a ∨ x = dx ∨ x = l
    · obtain ⟨u, h1, _⟩ := new x hx
      rw [h1]; simp
    · cases e : H x with
      | none => exact absurd e h
      | some o => rw [ho x o e hx]; simp
  have nO : ∀ x, O x → ¬ (x = a ∨ x = dx ∨ x = l) := fun x h z => (nn x z).2.1 h
  have nW : ∀ x, WA g x → ¬ (x = a ∨ x = dx ∨ x = l) := fun x h => nO x (st.wf.wao x h)
  have k1 : ∀ {o : GO} {y : WO}, o ∈ g → W1 K H o y → W1 K H' o y := fun {o y} hm h => by
    have n : ∀ x ∈ o.adr, ¬ (x = a ∨ x = dx ∨ x = l) := fun x hx => nW x ⟨o, hm, hx⟩
    cases o with
    | drw p q => cases y with
      | drw ms d => exact ⟨ho _ _ h.1 (n p (by simp [GO.adr])), ho _ _ h.2 (n q (by simp [GO.adr]))⟩
      | _ => exact h.elim
    | scr p => cases y with
      | scr ms => exact h.elim (fun ⟨ob, q⟩ => .inl ⟨ob, ho _ _ q fun z => (nn p z).2.2.2 _ _ q⟩) .inr
      | _ => exact h.elim
    | wat p q r => cases y with
      | wat sz2 nm2 nb2 ms =>
        obtain ⟨t2, h3, h4, h5, h6⟩ := h
        exact ⟨t2, ho _ _ h3 (n p (by simp [GO.adr])), ho _ _ h4 (n q (by simp [GO.adr])), ho _ _ h5 fun z => (nn t2 z).2.2.1 _ h5, ho _ _ h6 (n r (by simp [GO.adr]))⟩
      | _ => exact h.elim
  refine ⟨⟨fun x o h n => ?_, fun x h => still x (e.still x h), fun x z => .inl (e.omono x z), fun x z => ?_, e.gpre.trans (List.prefix_append _ _), fun x z => ?_⟩, ⟨fun x z => ?_, fun x z => ?_, fun x z vs => ?_⟩, ⟨?_, ?_⟩⟩
  · exact ho x o (e.keep x o h n) fun z => by
      have := (nn x z).1
      rw [h] at this
      cases this
  · exact z.elim (e.onew x) fun z => .inr (nn x z).1
  · exact (wsp x z).elim (e.gnew x) fun z => .inr (nn x z).1
  · exact (wsp x z).elim (fun z => .inl (st.wf.wao x z)) .inr
  · rcases z with z | z
    · exact still x (st.wf.oal x z)
    · obtain ⟨u, h1, _⟩ := new x z
      rw [h1]; simp
  · rcases z with z | z
    · cases e : H x with
      | none => exact absurd e (st.wf.oal x z)
      | some o =>
        rw [ho x o e (nO x z)]
        have := st.wf.ot x z vs
        rw [e] at this
        exact this
    · obtain ⟨u, h1, h2⟩ := new x z
      rw [h1]
      intro e
      cases e
      exact h2 _ rfl
  · have key : ∀ {l2 : Gh} {m : Wd}, (∀ o ∈ l2, o ∈ g) → Paired (W1 K H) l2 m → Paired (W1 K H') (l2 ++ [.wat a dx l]) (m ++ [.wat sz nm nb []]) := by
      intro l2 m hl p
      induction p with
      | nil => exact .cons hW .nil
      | cons r t ih => exact .cons (k1 (hl _ List.mem_cons_self) r) (ih fun o ho => hl o (List.mem_cons_of_mem _ ho))
    exact key (fun _ z => z) st.wr.pr
  · rw [List.flatMap_append, List.nodup_append]
    refine ⟨st.wr.nd, by simp [GO.adr, had, hal, hdl], fun x hx y hy e => ?_⟩
    subst e
    have wx : WA g x := by
      obtain ⟨o, h1, h2⟩ := List.mem_flatMap.mp hx
      exact ⟨o, h1, h2⟩
    simp only [List.flatMap_cons, List.flatMap_nil, GO.adr, List.append_nil, List.mem_cons, List.not_mem_nil, or_false] at hy
    exact nW x wx hy
/-- a watcher's objects are changed -/
theorem St3.updW {K : PySem.W.Frag} {H H' : Hp} {O : Os} {g : Gh} {w : Wd} {k : Nat} {a dx l : Addr} {wo wo' : WO} (st : St3 K H O g w) (hg : g[k]? = some (.wat a dx l)) (hw : w[k]? = some wo) (ho : ∀ x, x ≠ a → x ≠ dx → x ≠ l → H' x = H x) (hW : W1 K H' (.wat a dx l) wo') :
    Evo H O g H' O g ∧ St3 K H' O g (w.set k wo') := by
  have hm : GO.wat a dx l ∈ g := List.mem_of_getElem? hg
  have wa : ∀ x, (x = a ∨ x = dx ∨ x = l) → WA g x := fun x hx => ⟨_, hm, by simpa [GO.adr] using hx⟩
  have new : ∀ x, (x = a ∨ x = dx ∨ x = l) → ∃ u, H' x = some u ∧ ∀ vs, u ≠ .tup vs := fun x hx => by
    obtain ⟨u, h1, h2, _⟩ := hW.nt x (by simpa [GO.adr] using hx)
    exact ⟨u, h1, h2⟩
  have old : ∀ x, ¬ (x = a ∨ x = dx ∨ x = l) → H' x = H x := fun x hx => ho x (fun z => hx (.inl z)) (fun z => hx (.inr (.inl z))) (fun z => hx (.inr (.inr z)))
  have there : ∀ x, H x ≠ none → H' x ≠ none := fun x h => by
    by_cases hx : x = a ∨ x = dx ∨ x = l
    · obtain ⟨u, h1, _⟩ := new x hx
      rw [h1]; simp
    · rw [old x hx]; exact h
  refine ⟨⟨fun x o h n => by rw [old x fun z => n (wa x z)]; exact h, there, fun _ z => z, fun _ z => .inl z, List.prefix_refl _, fun _ z => .inl z⟩, ⟨st.wf.wao, fun x z => there x (st.wf.oal x z), fun x z vs => ?_⟩, ⟨?_, st.wr.nd⟩⟩
  · by_cases hx : x = a ∨ x = dx ∨ x = l
    · obtain ⟨u, h1, h2⟩ := new x hx
      rw [h1]
      intro e
      cases e
      exact h2 _ rfl
    · rw [old x hx]; exact st.wf.ot x z vs
  · refine Paired.setR2 st.wr.pr (fun j o y hj h1 h2 h => ?_) fun o h => ?_
    · have ap := adr_apart2 st.wr.nd h1 hg hj
      have nl : ∀ x ∈ o.adr, H' x = H x := fun x hx => old x fun z => ap x hx (by simpa [GO.adr] using z)
      have nt : ∀ x vs, H x = some (.tup vs) → H' x = H x := fun x vs hx => old x fun z => st.wr.nt x (wa x z) vs hx
      cases o with
      | drw p q => cases y with
        | drw ms d => exact ⟨by rw [nl p (by simp [GO.adr])]; exact h.1, by rw [nl q (by simp [GO.adr])]; exact h.2⟩
        | _ => exact h.elim
      | scr p => cases y with
        | scr ms =>
          refine h.elim (fun ⟨ob, q⟩ => .inl ⟨ob, ?_⟩) .inr
          rw [old p fun z => by
            obtain ⟨u, h1, _, h3⟩ := st.wr.ob (wa p z)
            rw [q] at h1
            cases h1
            exact h3 _ _ rfl]
          exact q
        | _ => exact h.elim
      | wat p q r => cases y with
        | wat sz2 nm2 nb2 ms =>
          obtain ⟨t2, h3, h4, h5, h6⟩ := h
          exact ⟨t2, by rw [nl p (by simp [GO.adr])]; exact h3, by rw [nl q (by simp [GO.adr])]; exact h4, by rw [nt t2 _ h5]; exact h5, by rw [nl r (by simp [GO.adr])]; exact h6⟩
        | _ => exact h.elim
    · rw [hg] at h
      cases h
      exact hW
end TM

namespace TM
open PySem PySem.Spec PyProof.Rows L2
variable [CNm]
abbrev rLtW : R2 := rI0 fun i j => .bl (decide (i < j))
def rLenW (K : PySem.W.Frag) : List V → Hp → VK → Prop := fun xs H Q => ∃ p ys, xs = [.ref p] ∧ (SqL K H p ys ∨ SqT K H p ys) ∧ Q (.int ys.length) H
/-! ### the terms of the watcher's methods -/
def t_res (K : PySem.W.Frag) (sp : Sp) (E : XK) : TS :=
  tSeq (tIfS (tTest (tOp rLtW (tCB (rLenW K) (tCons (tFld K (tVar 0) "line") tNil)) (tFld K (tVar 0) "size"))) (tRet (tC .non)) tNext)
  (tRet (tCall sp [] E (tCons (tFld K (tVar 0) "rule") (tCons (tSl (rSlL K) (tFld K (tVar 0) "line") (tPart (tUn (rU fun i => .int (-i)) (tFld K (tVar 0) "size"))) tNoPart) tNil))))
def t_psh (K : PySem.W.Frag) (spV spM : Sp) (E : XK) : TS :=
  tSeq (tDrop (tCall spV [] E (tCons (tVar 1) tNil)))
  (tSeq (tDrop (tBM K "list" rAppend (tFld K (tVar 0) "line") (tCons (tVar 1) tNil)))
  (tRet (tMeth (He.ga K "Watcher") "result" spM [] E (tVar 0) tNil)))
def t_ini (K : PySem.W.Frag) (spS spR : Sp) (E : XK) : TS :=
  tSeq (tDrop (tCall spS [] E (tCons (tVar 1) tNil)))
  (tSeq (tDrop (tCall spR [] E (tCons (tVar 2) (tCons (tVar 1) tNil))))
  (tSeq (sFld K (tVar 0) (tVar 1) "size")
  (tSeq (sFld K (tVar 0) (tVar 2) "rule")
  (sFld K (tVar 0) (tLst tNil) "line"))))
structure WCls (K : PySem.W.Frag) : Prop where
  cl : Cls K (He.ga K "Watcher")
  a1 : NoAttr K (He.ga K "Watcher") "size"
  a2 : NoAttr K (He.ga K "Watcher") "rule"
  a3 : NoAttr K (He.ga K "Watcher") "line"
section
variable {K : PySem.W.Frag}
theorem watT_res {T : Tab} {vs : List D} {w : Wd} : watT T .wres vs w = (match vs with
  | [s] => (match spD s with
    | some k => (match w[k]? with
      | some (.wat sz nm nb ns) => if (ns.length : Int) < sz then .ok (.val .none) w else T "result_of" [.tuple [.str nm, .int nb], .list (cut (ns.map .int) (some (-sz)) none)] w
      | _ => .bad)
    | none => .bad)
  | _ => .bad) := by rcases vs with _ | ⟨a, _ | ⟨b, _ | ⟨c, r⟩⟩⟩ <;> rfl
theorem watT_psh {T : Tab} {vs : List D} {w : Wd} : watT T .wpsh vs w = (match vs with
  | [s, v] => (T "check_value" [v] w).bind fun _ w => pshV T s v w
  | _ => .bad) := by rcases vs with _ | ⟨a, _ | ⟨b, _ | ⟨c, r⟩⟩⟩ <;> rfl
theorem watT_ini {T : Tab} {vs : List D} {w : Wd} : watT T .wini vs w = (match vs with
  | [a, b] => (T "check_size" [a] w).bind fun _ w => (T "check_rule" [b, a] w).bind fun _ w => iniV a b w
  | _ => .bad) := by rcases vs with _ | ⟨a, _ | ⟨b, _ | ⟨c, r⟩⟩⟩ <;> rfl
theorem watT_chg {T : Tab} {vs : List D} {w : Wd} : watT T .wchg vs w = (match vs with
  | [s, r] => (match spD s with
    | some k => (match w[k]? with
      | some (.wat sz _ _ _) => (T "check_rule" [r, .int sz] w).bind fun _ w => chgV T s k r w
      | _ => .bad)
    | none => .bad)
  | _ => .bad) := by rcases vs with _ | ⟨a, _ | ⟨b, _ | ⟨c, r⟩⟩⟩ <;> rfl
theorem watT_lst {T : Tab} {vs : List D} {w : Wd} : watT T .wlst vs w = (match vs with
  | [s] => (match spD s with
    | some k => (match w[k]? with
      | some (.wat sz _ _ ns) => .ok (.own (cut (ns.map .int) (some (-sz)) none)) w
      | _ => .bad)
    | none => .bad)
  | _ => .bad) := by rcases vs with _ | ⟨a, _ | ⟨b, _ | ⟨c, r⟩⟩⟩ <;> rfl
theorem watT_und {T : Tab} {vs : List D} {w : Wd} : watT T .wund vs w = (match vs with
  | [s] => (match spD s with
    | some k => undV k w
    | none => .bad)
  | _ => .bad) := by rcases vs with _ | ⟨a, _ | ⟨b, _ | ⟨c, r⟩⟩⟩ <;> rfl
theorem watT_len {T : Tab} {vs : List D} {w : Wd} : watT T .wlen vs w = (match vs with
  | [s] => (match spD s with
    | some k => (match w[k]? with
      | some (.wat _ _ _ ns) => .ok (.val (.int ns.length)) w
      | _ => .bad)
    | none => .bad)
  | _ => .bad) := by rcases vs with _ | ⟨a, _ | ⟨b, _ | ⟨c, r⟩⟩⟩ <;> rfl
theorem spD_some {d : D} {k : Nat} (h : spD d = some k) : d = .dict [(.int (.ofNat k), .none)] := by
  unfold spD at h
  split at h
  · cases h; rfl
  · cases h
/-- a watcher in the heap -/
theorem wat_at {H : Hp} {O : Os} {g : Gh} {w : Wd} {v : V} {k : Nat} {sz nb : Int} {nm : Str} {ns : List Int} (st : St3 K H O g w) (r : Rep g O H v (.dict [(.int (.ofNat k), .none)])) (hw : w[k]? = some (.wat sz nm nb ns)) :
    ∃ a dx l t, v = .ref a ∧ g[k]? = some (.wat a dx l) ∧ H a = some (.ins (He.ga K "Watcher") dx [("size", .int sz), ("rule", .ref t), ("line", .ref l)]) ∧ H t = some (.tup [.str nm, .int nb]) ∧ H l = some (.lst (ns.map V.int)) := by
  cases r with
  | spc hg =>
    obtain ⟨wo, h1, h2⟩ := Paired.getL st.wr.pr hg
    rw [hw] at h1
    cases h1
    rename_i o
    cases o with
    | wat ad dx l =>
      obtain ⟨t, h3, _, h5, h6⟩ := h2
      exact ⟨ad, dx, l, t, rfl, hg, h3, h5, h6⟩
    | _ => exact h2.elim
theorem PstX.later {α : Type} {H H1 : Hp} {O O1 : Os} {g g1 : Gh} {m : R α} {C : α → Wd → Hp → Os → Gh → Prop} {W : Str → Hp → Prop} (h : PstX K H O g m C W) (e : Evo H O g H1 O1 g1) : PstX K H1 O1 g1 m C W := by
  cases m with
  | ok a w => exact fun H' O' g' e' s' => h _ _ _ (e.trans e') s'
  | exc c w => exact fun H' O' g' e' s' => h _ _ _ (e.trans e') s'
  | bad => exact h
theorem PstX.cv {H H1 : Hp} {O O1 : Os} {g g1 : Gh} {m : R RV} {Q : VK} {W : Str → Hp → Prop} (h : PstX K H1 O1 g1 m (CV H Q) W) (e : Evo H O g H1 O1 g1) : PstX K H1 O1 g1 m (CV H1 Q) W := by
  cases m with
  | ok a w => exact fun H' O' g' e' s' v rv => h _ _ _ e' s' v (rv.from e)
  | exc c w => exact h
  | bad => exact h
theorem pure_res {T : Tab} {N : List Str} (W : WCls K) (hN : N.length = 1) (vs : List V) (H : Hp) (Q : VK) (E : XK) (h : spT K (watT T .wres) vs H Q E) : t_res K (spT K (T "result_of")) E { nx := fun _ H' => Q .non H', rt := Q } (L2.start N vs) H := by
  obtain ⟨O, g, w, ds, st, r, q⟩ := h
  rw [watT_res] at q
  split at q
  · rename_i s
    cases hk : spD s with
    | none => rw [hk] at q; exact (q : False).elim
    | some k =>
      rw [hk] at q
      dsimp only at q
      split at q
      · rename_i sz nm nb ns hw
        have es := spD_some hk
        subst es
        cases r with
        | cons r1 rt =>
          cases rt
          obtain ⟨a, dx, l, t, rfl, hg, h1, h2, h3⟩ := wat_at st r1 hw
          have hst : L2.start N [V.ref a] = [some (.ref a)] := by
            unfold L2.start
            simp [hN]
          rw [hst]
          have fl : ∀ {f : Str} {v : V} {H1 : Hp} {Q1 : VK}, H1 a = some (.ins (He.ga K "Watcher") dx [("size", .int sz), ("rule", .ref t), ("line", .ref l)]) → NoAttr K (He.ga K "Watcher") f → List.lookup f [(("size" : Str), V.int sz), ("rule", .ref t), ("line", .ref l)] = some v → Q1 v H1 → tFld K (tVar 0) f [some (.ref a)] H1 Q1 := fun {f v H1 Q1} q1 q2 q3 q4 => ⟨.ref a, rfl, a, _, dx, _, v, rfl, q1, W.cl, q2, q3, q4⟩
          refine fl h1 W.a3 rfl ⟨l, _, rfl, .inl (SqL.of h3), fl h1 W.a1 rfl ⟨_, _, rfl, rfl, _, rfl, ?_⟩⟩
          by_cases hlt : ((ns.map V.int).length : Int) < sz
          · rw [decide_eq_true hlt]
            dsimp only
            rw [if_pos rfl]
            rw [if_pos (by simpa using hlt)] at q
            exact q _ _ _ Evo.refl st _ .non
          · rw [decide_eq_false hlt]
            dsimp only
            rw [if_neg Bool.false_ne_true]
            rw [if_neg (by simpa using hlt)] at q
            dsimp only [tNext, tRet, tCall, tCons, tSl, tPart, tUn, tNoPart, tNil]
            refine fl h1 W.a2 rfl ?_
            refine fl h1 W.a3 rfl ?_
            refine fl h1 W.a1 rfl ?_
            refine ⟨_, rfl, _, rfl, l, _, rfl, SqL.of h3, fun p hp => ?_⟩
            have e1 := Evo.newTup (o := .lst (cutV (ns.map V.int) (some (-sz)) none)) st.wf hp
            have s1 := st.newTup (o := .lst (cutV (ns.map V.int) (some (-sz)) none)) hp
            have ri : ∀ {H1 : Hp} (ns : List Int), Reps g O H1 (ns.map V.int) (ns.map PyData.int) := fun {H1} ns => by
              induction ns with
              | nil => exact .nil
              | cons i r ih => exact .cons (.int i) ih
            refine ⟨O, g, w, _, s1, .cons (.tup (by rw [upd_ne (ne_of_none h2 hp)]; exact h2) (.cons (.str nm) (.cons (.int nb) .nil))) (.cons (.lst upd_same (st.wf.fresh hp).1 ((ri ns).cut (some (-sz)) none)) .nil), (q.later e1).cv e1⟩
      · exact (q : False).elim
  · exact (q : False).elim
theorem pure_psh {T : Tab} {N : List Str} (W : WCls K) (hN : N.length = 2) (vs : List V) (H : Hp) (Q : VK) (E : XK) (h : spT K (watT T .wpsh) vs H Q E) : t_psh K (spT K (T "check_value")) (spT K (T "Watcher.result")) E { nx := fun _ H' => Q .non H', rt := Q } (L2.start N vs) H := by
  obtain ⟨O, g, w, ds, st, r, q⟩ := h
  rw [watT_psh] at q
  split at q
  · rename_i s v
    cases r with
    | cons r1 rt =>
      cases rt with
      | cons r2 rt =>
        cases rt
        rename_i v1 v2
        have hst : L2.start N [v1, v2] = [some v1, some v2] := by
          unfold L2.start
          simp [hN]
        rw [hst]
        refine ⟨v2, rfl, O, g, w, [v], st, .cons r2 .nil, ?_⟩
        cases ht : T "check_value" [v] w with
        | bad => rw [ht] at q; exact q
        | exc c w1 => rw [ht] at q; exact q
        | ok rr w1 =>
          rw [ht] at q
          simp only [R.bind_ok] at q
          intro H1 O1 g1 e1 s1 _ _
          have q := q.later e1
          unfold pshV at q
          cases hk : spD s with
          | none => rw [hk] at q; exact (q : False).elim
          | some k =>
           rw [hk] at q
           have es := spD_some hk
           subst es
           cases v with
           | int i =>
             dsimp only at q
             cases hw : w1[k]? with
             | none => rw [hw] at q; exact (q : False).elim
             | some wo =>
               cases wo with
               | wat sz nm nb ns =>
                 rw [hw] at q
                 dsimp only at q
                 by_cases hlen : ns.length < 1000
                 · rw [if_pos hlen] at q
                   have r1' := st.rep e1 r1
                   have r2' := st.rep e1 r2
                   cases r2'
                   obtain ⟨a, dx, l, t, rfl, hg, h1, h2, h3⟩ := wat_at s1 r1' hw
                   refine ⟨.ref a, rfl, a, _, dx, _, .ref l, rfl, h1, W.cl, W.a3, rfl, .inl ⟨rfl, _, SqL.of h3⟩, .int i, rfl, l, _, .int i, rfl, rfl, h3, ?_, ?_⟩
                   · rw [List.length_map]
                     exact Nat.lt_of_lt_of_le (Nat.lt_of_lt_of_le hlen (by decide)) cap_line
                   · obtain ⟨e2, s2⟩ := s1.setW (ns' := ns ++ [i]) hg hw
                     have hm : (ns ++ [i]).map V.int = ns.map V.int ++ [.int i] := by simp
                     rw [hm] at e2 s2
                     refine ⟨.ref a, rfl, a, dx, _, rfl, by rw [upd_ne (fun z => by rw [z, h3] at h1; cases h1)]; exact h1, rfl, ?_⟩
                     exact ⟨O1, g1, _, [.dict [(.int (.ofNat k), .none)]], s2, .cons (s1.rep e2 r1') .nil, (q.later e2).cv (e1.trans e2)⟩
                 · rw [if_neg hlen] at q
                   exact (q : False).elim
               | _ => rw [hw] at q; exact (q : False).elim
           | _ => exact (q : False).elim
  · exact (q : False).elim
theorem Paired.len {α β : Type} {F : α → β → Prop} {l : List α} {m : List β} (h : Paired F l m) : l.length = m.length := by
  induction h with
  | nil => rfl
  | cons r t ih => simp [ih]
theorem pure_ini {T : Tab} {N : List Str} (W : WCls K) (hN : N.length = 3) (vs : List V) (H : Hp) (Q : VK) (E : XK) (h : spI K (watT T .wini) vs H Q E) : t_ini K (spT K (T "check_size")) (spT K (T "check_rule")) E { nx := fun _ H' => Q .non H', rt := Q } (L2.start N vs) H := by
  obtain ⟨x, dx, H1, rest, O, g, w, ds, rfl, rfl, nx, nd, ne, st, r, q⟩ := h
  rw [watT_ini] at q
  split at q
  · rename_i a b
    cases r with
    | cons r1 rt =>
      cases rt with
      | cons r2 rt =>
        cases rt
        rename_i v1 v2
        have hst : L2.start N [.ref x, v1, v2] = [some (.ref x), some v1, some v2] := by
          unfold L2.start
          simp [hN]
        rw [hst]
        have e01 := Evo.newTup (o := .own x) st.wf nd
        have s01 := st.newTup (o := .own x) nd
        have nx' : upd H1 dx (.own x) x = none := by rw [upd_ne (Ne.symm ne)]; exact nx
        have e02 := Evo.newTup (o := .ins (He.ga K "Watcher") dx []) s01.wf nx'
        have s0 := s01.newTup (o := .ins (He.ga K "Watcher") dx []) nx'
        have e0 := e01.trans e02
        have f1 := st.wf.fresh nx
        have f2 := st.wf.fresh nd
        have hx0 : upd (upd H1 dx (.own x)) x (.ins (He.ga K "Watcher") dx []) x = some (.ins (He.ga K "Watcher") dx []) := upd_same
        have hd0 : upd (upd H1 dx (.own x)) x (.ins (He.ga K "Watcher") dx []) dx = some (.own x) := by rw [upd_ne ne, upd_same]
        generalize upd (upd H1 dx (.own x)) x (.ins (He.ga K "Watcher") dx []) = H at *
        refine ⟨v1, rfl, O, g, w, [a], s0, .cons (st.rep e0 r1) .nil, ?_⟩
        cases ht : T "check_size" [a] w with
        | bad => rw [ht] at q; exact q
        | exc c w1 => rw [ht] at q; exact q.later e0
        | ok rr w1 =>
          rw [ht] at q
          simp only [R.bind_ok] at q
          intro H2 O2 g2 e1 s1 _ _
          refine ⟨v2, rfl, v1, rfl, O2, g2, w1, [b, a], s1, .cons (s0.rep e1 (st.rep e0 r2)) (.cons (s0.rep e1 (st.rep e0 r1)) .nil), ?_⟩
          cases ht2 : T "check_rule" [b, a] w1 with
          | bad => rw [ht2] at q; exact q
          | exc c w2 => rw [ht2] at q; exact q.later (e0.trans e1)
          | ok rr2 w2 =>
            rw [ht2] at q
            simp only [R.bind_ok] at q
            intro H3 O3 g3 e2 s2 _ _
            have e3 := e0.trans (e1.trans e2)
            have e13 := e1.trans e2
            have hx3 := e13.keep _ _ hx0 f1.2
            have hd3 := e13.keep _ _ hd0 f2.2
            have nO : ∀ y, H1 y = none → H y ≠ none → ¬ O y → ¬ O3 y := fun y _ h2 h3 z => (e13.onew y z).elim h3 h2
            unfold iniV at q
            split at q
            · rename_i sz nm nb
              by_cases h2w : 2 ≤ w2.length
              rotate_left
              · rw [if_neg h2w] at q; exact (q : False).elim
              rw [if_pos h2w] at q
              have q1 := st.rep e3 r1
              have q2 := st.rep e3 r2
              cases q1
              cases q2 with
              | tup ht3 rr3 =>
                cases rr3 with
                | cons z1 z2 =>
                  cases z2 with
                  | cons z2 z3 =>
                    cases z3
                    cases z1
                    cases z2
                    rename_i t
                    refine ⟨.int sz, rfl, .ref x, rfl, x, _, dx, _, rfl, hx3, W.cl, W.a1, (by show (0 : Nat) < 1000; decide), ?_⟩
                    refine ⟨.ref t, rfl, .ref x, rfl, x, _, dx, _, rfl, upd_same, W.cl, W.a2, (by show (1 : Nat) < 1000; decide), ?_⟩
                    refine ⟨by simp, fun l hl => ?_⟩
                    have lx : l ≠ x := fun z => by rw [z, upd_same] at hl; cases hl
                    have hl3 : H3 l = none := by
                      rw [upd_ne lx, upd_ne lx] at hl
                      exact hl
                    have ld : l ≠ dx := fun z => by rw [z, hd3] at hl3; cases hl3
                    have lt : l ≠ t := fun z => by rw [z, ht3] at hl3; cases hl3
                    have tx : t ≠ x := fun z => by rw [z, hx3] at ht3; cases ht3
                    refine ⟨.ref x, rfl, x, _, dx, _, rfl, by rw [upd_ne (Ne.symm lx), upd_same], W.cl, W.a3, (by show (2 : Nat) < 1000; decide), ?_⟩
                    have hfs : putF "line" (.ref l) (putF "rule" (.ref t) (putF "size" (.int sz) [])) = [(("size" : Str), V.int sz), ("rule", .ref t), ("line", .ref l)] := rfl
                    rw [hfs]
                    have hW : W1 K (upd (upd (upd (upd H3 x (.ins (He.ga K "Watcher") dx (putF "size" (.int sz) []))) x (.ins (He.ga K "Watcher") dx (putF "rule" (.ref t) (putF "size" (.int sz) [])))) l (.lst [])) x (.ins (He.ga K "Watcher") dx [(("size" : Str), V.int sz), ("rule", .ref t), ("line", .ref l)])) (.wat x dx l) (.wat sz nm nb []) :=
                      ⟨t, upd_same, by rw [upd_ne ne, upd_ne (Ne.symm ld), upd_ne ne, upd_ne ne]; exact hd3, by rw [upd_ne tx, upd_ne (Ne.symm lt), upd_ne tx, upd_ne tx]; exact ht3, by rw [upd_ne lx, upd_same]; rfl⟩
                    obtain ⟨e4, s4⟩ := St3.addW (a := x) (dx := dx) (l := l) e3 s2 (fun y hy => by
                      rcases hy with rfl | rfl | rfl
                      · exact ⟨nx, nO _ nx (by rw [hx0]; simp) f1.1, (fun vs z => by rw [hx3] at z; cases z), (fun o u z => by rw [hx3] at z; cases z)⟩
                      · exact ⟨nd, nO _ nd (by rw [hd0]; simp) f2.1, (fun vs z => by rw [hd3] at z; cases z), (fun o u z => by rw [hd3] at z; cases z)⟩
                      · exact ⟨e3.back hl3, fun z => s2.wf.oal _ z hl3, (fun vs z => by rw [hl3] at z; cases z), (fun o u z => by rw [hl3] at z; cases z)⟩) (Ne.symm ne) (Ne.symm lx) (Ne.symm ld) hW (fun y o hy hn => by
                      have n1 : y ≠ x := fun z => hn (.inl z)
                      have n3 : y ≠ l := fun z => hn (.inr (.inr z))
                      rw [upd_ne n1, upd_ne n3, upd_ne n1, upd_ne n1]
                      exact hy)
                    refine q _ _ _ e4 s4 ?_
                    have hlen : g3.length = w2.length := Paired.len s2.wr.pr
                    have hget : (g3 ++ [GO.wat x dx l])[w2.length]? = some (.wat x dx l) := by rw [← hlen]; simp
                    exact (Rep.spc hget : Rep _ _ _ (.ref (GO.wat x dx l).main) _)
            · exact (q : False).elim
  · exact (q : False).elim
end
end TM
namespace TM
open PySem PySem.Spec PyProof.Rows L2
variable [CNm]
/-- a def that may be called -/
def CalA (P : Program) (w : World) (K : PySem.W.Frag) (mg : Str → Option Value) (base : Heap) (n : Nat) (T : Tab) (x : Str) : Prop := ∃ a fd ps, mg x = some (.ref a) ∧ PySem.W.keepIn K (.ref a) = true ∧ Binds K fd ps [] ∧ FnOk P w K mg base (L2.CX P w) n a fd ps (spT K (T x))
abbrev CalX (X : Cx) (n : Nat) (T : Tab) (x : Str) : Prop := CalA X.prog X.w X.K X.mg X.base n T x
structure CtxW (X : Cx) (n : Nat) (E : XK) (fd : FD) : Prop where
  calm : X.calm = true
  len : X.mg "len" = none
  N : X.N = fd.N
  sc : X.env.scope = defScope fd.st
  un : X.A.units + 64 < cLine
  room : Room n X.A
  ps : Passes (L2.CX X.prog X.w) X E
def TmRes (fd : FD) : Prop := ∀ (X : Cx) (n : Nat) (T : Tab) (E : XK), CtxW X n E fd → CalX X n T "result_of" → PSs X (defBody fd.st) (t_res X.K (spT X.K (T "result_of")) E)
def TmPsh (fd : FD) : Prop := ∀ (X : Cx) (n : Nat) (T : Tab) (E : XK), CtxW X n E fd → CalX X n T "check_value" → MtOk X.prog X.w X.K X.mg X.base n T "result" "Watcher.result" → WCls X.K → PSs X (defBody fd.st) (t_psh X.K (spT X.K (T "check_value")) (spT X.K (T "Watcher.result")) E)
def TmIni (fd : FD) : Prop := ∀ (X : Cx) (n : Nat) (T : Tab) (E : XK), CtxW X n E fd → CalX X n T "check_size" → CalX X n T "check_rule" → PSs X (defBody fd.st) (t_ini X.K (spT X.K (T "check_size")) (spT X.K (T "check_rule")) E)
section
variable {P : Program} {w : World} {K : PySem.W.Frag} {mg : Str → Option Value} {base : Heap} {n : Nat} {T : Tab} {f : Addr} {fdat : FuncData} {fd : FD} {ps : List Str}
theorem pass_own {N : List Str} {qual : Str} {sc : Scope} {cdv : Value} {A : Around} {outer : List Env} {s : Shared} {H : Hp} {E : XK} : Passes (L2.CX P w) (cxOf (L2.CX P w) P w K mg base N qual sc f cdv A outer s H E) E :=
  passes_call (takes_of rfl rfl rfl rfl) (fun _ _ _ _ h => h)
theorem wres_ok (F : Fun K "result" "Watcher.result" fd.st f fdat) (S : FnScope fd.N ps (defScope fd.st)) (hN : fd.N.length = 1) (hp : ps.length = 1) (W : WCls K) (hlen : mg "len" = none) (tm : TmRes fd) (c1 : CalA P w K mg base n T "result_of") : FnOk P w K mg base (L2.CX P w) (n + 1) f fdat ps (spT K (watT T .wres)) := by
  refine F.okX S (fun vs H Q E h => ?_) fun cdv A outer s H vs Q E hr h => ⟨_, tm _ n T E ⟨rfl, hlen, rfl, rfl, hr.units, hr, pass_own⟩ c1, pure_res W hN vs H Q E h⟩
  obtain ⟨O, g, w, ds, st, r, q⟩ := h
  rw [watT_res] at q
  split at q
  · rw [r.length, hp]; rfl
  · exact (q : False).elim
theorem wpsh_ok (F : Fun K "push" "Watcher.push" fd.st f fdat) (S : FnScope fd.N ps (defScope fd.st)) (hN : fd.N.length = 2) (hp : ps.length = 2) (W : WCls K) (hlen : mg "len" = none) (tm : TmPsh fd) (c1 : CalA P w K mg base n T "check_value") (c2 : MtOk P w K mg base n T "result" "Watcher.result") : FnOk P w K mg base (L2.CX P w) (n + 1) f fdat ps (spT K (watT T .wpsh)) := by
  refine F.okX S (fun vs H Q E h => ?_) fun cdv A outer s H vs Q E hr h => ⟨_, tm _ n T E ⟨rfl, hlen, rfl, rfl, hr.units, hr, pass_own⟩ c1 c2 W, pure_psh W hN vs H Q E h⟩
  obtain ⟨O, g, w, ds, st, r, q⟩ := h
  rw [watT_psh] at q
  split at q
  · rw [r.length, hp]; rfl
  · exact (q : False).elim
theorem wini_ok (F : Fun K "__init__" "Watcher.__init__" fd.st f fdat) (S : FnScope fd.N ps (defScope fd.st)) (hN : fd.N.length = 3) (hp : ps.length = 3) (W : WCls K) (hlen : mg "len" = none) (tm : TmIni fd) (c1 : CalA P w K mg base n T "check_size") (c2 : CalA P w K mg base n T "check_rule") : FnOk P w K mg base (L2.CX P w) (n + 1) f fdat ps (spI K (watT T .wini)) := by
  refine F.okX S (fun vs H Q E h => ?_) fun cdv A outer s H vs Q E hr h => ⟨_, tm _ n T E ⟨rfl, hlen, rfl, rfl, hr.units, hr, pass_own⟩ c1 c2, pure_ini W hN vs H Q E h⟩
  obtain ⟨x, dx, H1, rest, O, g, w, ds, rfl, rfl, nx, nd, ne, st, r, q⟩ := h
  rw [watT_ini] at q
  split at q
  · rw [List.length_cons, r.length, hp]; rfl
  · exact (q : False).elim
end
end TM

namespace TM
open PySem PySem.Spec PyProof.Rows L2
variable [CNm]
def t_chg (K : PySem.W.Frag) (spR spM : Sp) (E : XK) : TS :=
  tSeq (tDrop (tCall spR [] E (tCons (tVar 1) (tCons (tFld K (tVar 0) "size") tNil))))
  (tSeq (sFld K (tVar 0) (tVar 1) "rule")
  (tRet (tMeth (He.ga K "Watcher") "result" spM [] E (tVar 0) tNil)))
def t_lst (K : PySem.W.Frag) : TS := tRet (tSl (rSlL K) (tFld K (tVar 0) "line") (tPart (tUn (rU fun i => .int (-i)) (tFld K (tVar 0) "size"))) tNoPart)
def t_len (K : PySem.W.Frag) : TS := tRet (tCB (rLenW K) (tCons (tFld K (tVar 0) "line") tNil))
section
variable {K : PySem.W.Frag}
theorem fld_rd (W : WCls K) {a dx l t : Addr} {sz : Int} {r : List (Option V)} {f : Str} {v : V} {H1 : Hp} {Q1 : VK} (q1 : H1 a = some (.ins (He.ga K "Watcher") dx [("size", .int sz), ("rule", .ref t), ("line", .ref l)])) (q2 : NoAttr K (He.ga K "Watcher") f) (q3 : List.lookup f [(("size" : Str), V.int sz), ("rule", .ref t), ("line", .ref l)] = some v) (q4 : Q1 v H1) : tFld K (tVar 0) f (some (.ref a) :: r) H1 Q1 := ⟨.ref a, rfl, a, _, dx, _, v, rfl, q1, W.cl, q2, q3, q4⟩
theorem reps_int {g : Gh} {O : Os} {H1 : Hp} (ns : List Int) : Reps g O H1 (ns.map V.int) (ns.map PyData.int) := by
  induction ns with
  | nil => exact .nil
  | cons i r ih => exact .cons (.int i) ih
theorem pure_len {T : Tab} {N : List Str} (W : WCls K) (hN : N.length = 1) (vs : List V) (H : Hp) (Q : VK) (E : XK) (h : spT K (watT T .wlen) vs H Q E) : t_len K { nx := fun _ H' => Q .non H', rt := Q } (L2.start N vs) H := by
  obtain ⟨O, g, w, ds, st, r, q⟩ := h
  rw [watT_len] at q
  split at q
  · rename_i s
    cases hk : spD s with
    | none => rw [hk] at q; exact (q : False).elim
    | some k =>
      rw [hk] at q
      dsimp only at q
      split at q
      · rename_i sz nm nb ns hw
        have es := spD_some hk
        subst es
        cases r with
        | cons r1 rt =>
          cases rt
          obtain ⟨a, dx, l, t, rfl, hg, h1, h2, h3⟩ := wat_at st r1 hw
          have hst : L2.start N [V.ref a] = [some (.ref a)] := by
            unfold L2.start
            simp [hN]
          rw [hst]
          refine fld_rd W h1 W.a3 rfl ⟨l, _, rfl, .inl (SqL.of h3), ?_⟩
          rw [List.length_map]
          exact q _ _ _ Evo.refl st _ (.int _)
      · exact (q : False).elim
  · exact (q : False).elim
theorem pure_lst {T : Tab} {N : List Str} (W : WCls K) (hN : N.length = 1) (vs : List V) (H : Hp) (Q : VK) (E : XK) (h : spT K (watT T .wlst) vs H Q E) : t_lst K { nx := fun _ H' => Q .non H', rt := Q } (L2.start N vs) H := by
  obtain ⟨O, g, w, ds, st, r, q⟩ := h
  rw [watT_lst] at q
  split at q
  · rename_i s
    cases hk : spD s with
    | none => rw [hk] at q; exact (q : False).elim
    | some k =>
      rw [hk] at q
      dsimp only at q
      split at q
      · rename_i sz nm nb ns hw
        have es := spD_some hk
        subst es
        cases r with
        | cons r1 rt =>
          cases rt
          obtain ⟨a, dx, l, t, rfl, hg, h1, h2, h3⟩ := wat_at st r1 hw
          have hst : L2.start N [V.ref a] = [some (.ref a)] := by
            unfold L2.start
            simp [hN]
          rw [hst]
          dsimp only [t_lst, tRet, tSl, tPart, tUn, tNoPart]
          refine fld_rd W h1 W.a3 rfl ?_
          refine fld_rd W h1 W.a1 rfl ?_
          refine ⟨_, rfl, _, rfl, l, _, rfl, SqL.of h3, fun p hp => ?_⟩
          have e1 := Evo.newOwn (o := .lst (cutV (ns.map V.int) (some (-sz)) none)) st.wf hp
          have s1 := st.newOwn (o := cutV (ns.map V.int) (some (-sz)) none) hp
          exact q _ _ _ e1 s1 _ ⟨p, rfl, .inr rfl, (st.wf.fresh hp).2, hp, _, upd_same, (reps_int ns).cut (some (-sz)) none⟩
      · exact (q : False).elim
  · exact (q : False).elim
theorem pure_chg {T : Tab} {N : List Str} (W : WCls K) (hN : N.length = 2) (vs : List V) (H : Hp) (Q : VK) (E : XK) (h : spT K (watT T .wchg) vs H Q E) : t_chg K (spT K (T "check_rule")) (spT K (T "Watcher.result")) E { nx := fun _ H' => Q .non H', rt := Q } (L2.start N vs) H := by
  obtain ⟨O, g, w, ds, st, r, q⟩ := h
  rw [watT_chg] at q
  split at q
  · rename_i s v
    cases hk : spD s with
    | none => rw [hk] at q; exact (q : False).elim
    | some k =>
      rw [hk] at q
      dsimp only at q
      split at q
      · rename_i sz nm nb ns hw
        have es := spD_some hk
        subst es
        cases r with
        | cons r1 rt =>
          cases rt with
          | cons r2 rt =>
            cases rt
            rename_i v2
            obtain ⟨a, dx, l, t, rfl, hg, h1, h2, h3⟩ := wat_at st r1 hw
            have hst : L2.start N [V.ref a, v2] = [some (.ref a), some v2] := by
              unfold L2.start
              simp [hN]
            rw [hst]
            refine ⟨v2, rfl, fld_rd W h1 W.a1 rfl ⟨O, g, w, [v, .int sz], st, .cons r2 (.cons (.int sz) .nil), ?_⟩⟩
            cases ht : T "check_rule" [v, .int sz] w with
            | bad => rw [ht] at q; exact q
            | exc c w1 => rw [ht] at q; exact q
            | ok rr w1 =>
              rw [ht] at q
              simp only [R.bind_ok] at q
              intro H1 O1 g1 e1 s1 _ _
              have q := q.later e1
              unfold chgV at q
              split at q
              · rename_i nm2 nb2 _
                split at q
                · rename_i sz2 x1 x2 ns2 hw2
                  have r1' := st.rep e1 r1
                  have r2' := st.rep e1 r2
                  obtain ⟨a2, dx2, l2, t2, ea, hg2, k1, k2, k3⟩ := wat_at s1 r1' hw2
                  cases ea
                  cases r2' with
                  | tup ht3 rr3 =>
                    cases rr3 with
                    | cons z1 z2 =>
                      cases z2 with
                      | cons z2 z3 =>
                        cases z3
                        cases z1
                        cases z2
                        rename_i tt
                        refine ⟨.ref tt, rfl, .ref a, rfl, a, _, dx2, _, rfl, k1, W.cl, W.a2, (by show (3 : Nat) < 1000; decide), ?_⟩
                        have hfs : putF "rule" (.ref tt) [(("size" : Str), V.int sz2), ("rule", .ref t2), ("line", .ref l2)] = [(("size" : Str), V.int sz2), ("rule", .ref tt), ("line", .ref l2)] := rfl
                        rw [hfs]
                        obtain ⟨wo, hwo, WW⟩ := Paired.getL s1.wr.pr hg2
                        rw [hw2] at hwo
                        cases hwo
                        obtain ⟨t3, w1', w2', w3', w4'⟩ := WW
                        have nda := nd_two s1.wr.nd (List.mem_of_getElem? hg2)
                        simp only [GO.adr, List.nodup_cons, List.mem_cons, List.not_mem_nil, or_false, not_or] at nda
                        have ta : tt ≠ a := fun z => by rw [z, k1] at ht3; cases ht3
                        obtain ⟨e2, s2⟩ := s1.updW (H' := upd H1 a (.ins (He.ga K "Watcher") dx2 [(("size" : Str), V.int sz2), ("rule", .ref tt), ("line", .ref l2)])) (wo' := .wat sz2 nm2 nb2 ns2) hg2 hw2 (fun x n1 _ _ => upd_ne n1) ⟨tt, upd_same, by rw [upd_ne (fun z => nda.1.1 z.symm)]; exact w2', by rw [upd_ne ta]; exact ht3, by rw [upd_ne (fun z => nda.1.2 z.symm)]; exact w4'⟩
                        refine ⟨.ref a, rfl, a, dx2, _, rfl, upd_same, rfl, ?_⟩
                        exact ⟨O1, g1, _, [.dict [(.int (.ofNat k), .none)]], s2, .cons (s1.rep e2 r1') .nil, (q.later e2).cv (e1.trans e2)⟩
                · exact (q : False).elim
              · exact (q : False).elim
      · exact (q : False).elim
  · exact (q : False).elim

def t_und (K : PySem.W.Frag) (E : XK) : TS := tSeq (tIfS (tTest (tOp (rEqD K) (tFld K (tVar 0) "line") (tLst tNil))) (fun _ _ H => E (.ref (CNm.nm "NotFound")) none H) tNext) (tRet (tBM0 K "list" rPop (tFld K (tVar 0) "line")))
theorem dpAll_ints {H : Hp} : ∀ ns : List Int, DpAll K H (ns.map V.int) (ns.map PyData.int)
  | [] => .nil
  | n :: ns => .cons (.int n) (dpAll_ints ns)
omit [CNm] in
theorem lay_ints : ∀ ns : List Int, PyData.canLayAll0 (ns.map PyData.int) = true ∧ PyData.depthAll (ns.map PyData.int) = 0
  | [] => ⟨by simp [PyData.canLayAll0], by simp [PyData.depthAll]⟩
  | n :: ns => by
    obtain ⟨h1, h2⟩ := lay_ints ns
    exact ⟨by simp [PyData.canLayAll0, PyData.canLay0, h1], by simp [PyData.depthAll, PyData.depth, h2]⟩
omit [CNm] in
theorem shaped_ints (ns : List Int) : SeqAt.shaped (.list (ns.map PyData.int)) = true := by
  obtain ⟨h1, h2⟩ := lay_ints ns
  unfold SeqAt.shaped
  simp [PyData.canLay0, PyData.depth, h1, h2]
theorem pure_und {T : Tab} {N : List Str} (W : WCls K) (hN : N.length = 1) (vs : List V) (H : Hp) (Q : VK) (E : XK) (h : spT K (watT T .wund) vs H Q E) : t_und K E { nx := fun _ H' => Q .non H', rt := Q } (L2.start N vs) H := by
  obtain ⟨O, g, w, ds, st, r, q⟩ := h
  rw [watT_und] at q
  split at q
  · rename_i s
    cases hk : spD s with
    | none => rw [hk] at q; exact (q : False).elim
    | some k =>
      rw [hk] at q
      dsimp only at q
      unfold undV at q
      split at q
      · rename_i sz nm nb ns hw
        have es := spD_some hk
        subst es
        cases r with
        | cons r1 rt =>
          cases rt
          obtain ⟨a, dx, l, t, rfl, hg, h1, h2, h3⟩ := wat_at st r1 hw
          have hst : L2.start N [V.ref a] = [some (.ref a)] := by
            unfold L2.start
            simp [hN]
          rw [hst]
          dsimp only [t_und, tSeq, tIfS, tTest, tOp, tLst, tNil, rEqD]
          refine fld_rd W h1 W.a3 rfl ?_
          refine ⟨Nat.zero_le _, fun p hp => ?_⟩
          have pa : a ≠ p := fun z => by rw [← z, h1] at hp; cases hp
          have pl : l ≠ p := fun z => by rw [← z, h3] at hp; cases hp
          have e1 := Evo.newOwn (o := .lst []) st.wf hp
          have s1 := st.newOwn (o := []) hp
          have h1' : upd H p (.lst []) a = some (.ins (He.ga K "Watcher") dx [("size", .int sz), ("rule", .ref t), ("line", .ref l)]) := by rw [upd_ne pa]; exact h1
          have h3' : upd H p (.lst []) l = some (.lst (ns.map V.int)) := by rw [upd_ne pl]; exact h3
          refine ⟨_, _, .lst (SqL.of h3') (dpAll_ints ns), .lst (SqL.of upd_same) .nil, shaped_ints ns, rfl, _, rfl, ?_⟩
          cases hl : ns.getLast? with
          | none =>
            rw [hl] at q
            have : ns = [] := List.getLast?_eq_none_iff.mp hl
            subst this
            exact q _ _ _ e1 s1
          | some i =>
            rw [hl] at q
            dsimp only at q
            have hne : ns ≠ [] := fun z => by rw [z] at hl; cases hl
            have ee : PyData.eqv (.list (ns.map PyData.int)) (.list []) = false := by
              cases ns with
              | nil => exact absurd rfl hne
              | cons b bs => rfl
            rw [ee]
            dsimp only [tNext, tRet, tBM0]
            rw [if_neg Bool.false_ne_true]
            refine fld_rd W h1' W.a3 rfl ?_
            refine ⟨.inl ⟨rfl, _, SqL.of h3'⟩, l, _, .int i, rfl, rfl, h3', ?_, ?_⟩
            · rw [List.length_map, List.getElem?_map, ← List.getLast?_eq_getElem?, hl]
              rfl
            · obtain ⟨e2, s2⟩ := s1.setW (ns' := ns.dropLast) hg hw
              rw [List.map_dropLast] at e2 s2
              exact q _ _ _ (e1.trans e2) s2 _ (.int i)
      · exact (q : False).elim
  · exact (q : False).elim
end
section
def TmChg (fd : FD) : Prop := ∀ (X : Cx) (n : Nat) (T : Tab) (E : XK), CtxW X n E fd → CalX X n T "check_rule" → MtOk X.prog X.w X.K X.mg X.base n T "result" "Watcher.result" → WCls X.K → PSs X (defBody fd.st) (t_chg X.K (spT X.K (T "check_rule")) (spT X.K (T "Watcher.result")) E)
def TmLst (fd : FD) : Prop := ∀ (X : Cx) (n : Nat) (E : XK), CtxW X n E fd → PSs X (defBody fd.st) (t_lst X.K)
def TmLen (fd : FD) : Prop := ∀ (X : Cx) (n : Nat) (E : XK), CtxW X n E fd → PSs X (defBody fd.st) (t_len X.K)
def XcU (X : Cx) : Prop := ∃ xs l, XcOk X.K X.mg xs "NotFound" l
def TmUnd (fd : FD) : Prop := ∀ (X : Cx) (n : Nat) (E : XK), CtxW X n E fd → (∃ xs l, XcOk X.K X.mg xs "NotFound" l) → Takes X (fun cls d _ H => E cls d H) → PSs X (defBody fd.st) (t_und X.K E)
variable {P : Program} {w : World} {K : PySem.W.Frag} {mg : Str → Option Value} {base : Heap} {n : Nat} {T : Tab} {f : Addr} {fdat : FuncData} {fd : FD} {ps : List Str}
theorem wchg_ok (F : Fun K "change_rule" "Watcher.change_rule" fd.st f fdat) (S : FnScope fd.N ps (defScope fd.st)) (hN : fd.N.length = 2) (hp : ps.length = 2) (W : WCls K) (hlen : mg "len" = none) (tm : TmChg fd) (c1 : CalA P w K mg base n T "check_rule") (c2 : MtOk P w K mg base n T "result" "Watcher.result") : FnOk P w K mg base (L2.CX P w) (n + 1) f fdat ps (spT K (watT T .wchg)) := by
  refine F.okX S (fun vs H Q E h => ?_) fun cdv A outer s H vs Q E hr h => ⟨_, tm _ n T E ⟨rfl, hlen, rfl, rfl, hr.units, hr, pass_own⟩ c1 c2 W, pure_chg W hN vs H Q E h⟩
  obtain ⟨O, g, w, ds, st, r, q⟩ := h
  rw [watT_chg] at q
  split at q
  · rw [r.length, hp]; rfl
  · exact (q : False).elim
theorem wlst_ok (F : Fun K "last_values" "Watcher.last_values" fd.st f fdat) (S : FnScope fd.N ps (defScope fd.st)) (hN : fd.N.length = 1) (hp : ps.length = 1) (W : WCls K) (hlen : mg "len" = none) (tm : TmLst fd) : FnOk P w K mg base (L2.CX P w) (n + 1) f fdat ps (spT K (watT T .wlst)) := by
  refine F.okX S (fun vs H Q E h => ?_) fun cdv A outer s H vs Q E hr h => ⟨_, tm _ n E ⟨rfl, hlen, rfl, rfl, hr.units, hr, pass_own⟩, pure_lst W hN vs H Q E h⟩
  obtain ⟨O, g, w, ds, st, r, q⟩ := h
  rw [watT_lst] at q
  split at q
  · rw [r.length, hp]; rfl
  · exact (q : False).elim
theorem wlen_ok (F : Fun K "__len__" "Watcher.__len__" fd.st f fdat) (S : FnScope fd.N ps (defScope fd.st)) (hN : fd.N.length = 1) (hp : ps.length = 1) (W : WCls K) (hlen : mg "len" = none) (tm : TmLen fd) : FnOk P w K mg base (L2.CX P w) (n + 1) f fdat ps (spT K (watT T .wlen)) := by
  refine F.okX S (fun vs H Q E h => ?_) fun cdv A outer s H vs Q E hr h => ⟨_, tm _ n E ⟨rfl, hlen, rfl, rfl, hr.units, hr, pass_own⟩, pure_len W hN vs H Q E h⟩
  obtain ⟨O, g, w, ds, st, r, q⟩ := h
  rw [watT_len] at q
  split at q
  · rw [r.length, hp]; rfl
  · exact (q : False).elim
theorem wund_ok (F : Fun K "undo" "Watcher.undo" fd.st f fdat) (S : FnScope fd.N ps (defScope fd.st)) (hN : fd.N.length = 1) (hp : ps.length = 1) (W : WCls K) (hlen : mg "len" = none) (hx : ∃ xs l, XcOk K mg xs "NotFound" l) (tm : TmUnd fd) : FnOk P w K mg base (L2.CX P w) (n + 1) f fdat ps (spT K (watT T .wund)) := by
  refine F.okX S (fun vs H Q E h => ?_) fun cdv A outer s H vs Q E hr h => ⟨_, tm _ n E ⟨rfl, hlen, rfl, rfl, hr.units, hr, pass_own⟩ hx (takes_of rfl rfl rfl rfl), pure_und W hN vs H Q E h⟩
  obtain ⟨O, g, w, ds, st, r, q⟩ := h
  rw [watT_und] at q
  split at q
  · rw [r.length, hp]; rfl
  · exact (q : False).elim
end
end TM

namespace TM
open PySem PySem.Spec PyProof.Rows L2
variable [CNm]

/-! ### the looks at statements -/
def chkNm (sc : Scope) (e : Expr) : Bool := match e with
  | .Name x _ => locB sc x
  | _ => false
def chkTgF (sc : Scope) (e : Expr) : Bool := match e with
  | .Tuple es _ _ => es.all (chkNm sc)
  | e => chkNm sc e
def notComp : Expr → Bool
  | .ListComp _ _ _ _ => false
  | .SetComp _ _ _ _ => false
  | .DictComp _ _ _ _ _ => false
  | _ => true
def lineOk (e : Expr) : Bool := match e with
  | .Call (.Attribute _ _ pa) _ _ pc => pa.endLine == pc.line
  | _ => false
def chkPar (N : List Str) (sc : Scope) (tts : List Expr) (x y : Str) : Bool := match tts with
  | [.Name x' _, .Name y' _] => decide (x' = x) && decide (y' = y) && decide (sc.names.lookup x = some .local) && decide (sc.names.lookup y = some .local) && (idx N x).isSome && (idx N y).isSome && decide (idx N x ≠ idx N y)
  | _ => false
def chkAsg (N : List Str) (sc : Scope) (t e : Expr) : Bool := match t with
  | .Name x _ => locB sc x
  | .Tuple tts _ _ => (match e with
    | .Tuple vs _ _ => (match swapP sc tts vs with
      | some none => tts.all (chkSt evF N sc)
      | some (some [x, y]) => chkPar N sc tts x y
      | _ => false)
    | _ => tts.all (chkSt evF N sc))
  | .Subscript o b pb => chkSt evF N sc (.Subscript o b pb)
  | _ => false
def chkRz (sc : Scope) (e c : Option Expr) : Bool := match e, c with
  | some (.Call (.Name x _) [.Constant (.str _) _ _] [] _), none => glB sc x
  | _, _ => true
def chkCl (N : List Str) (sc : Scope) (hs : List ExceptHandler) : Bool := match clause hs with
  | some (x, nn, m) => glB sc x && decide (sc.names.lookup nn = some .local) && decide (sc.names.lookup m = some .local) && !(nn == ("__debug__" : Str)) && !(nn == ("__classdict__" : Str)) && (idx N nn).isSome && (idx N m).isSome
  | none => true
def tryR (G : Cn) (hs : List ExceptHandler) (orelse fin : List Stmt) (r : R Out) : R Out := match clause hs, orelse, fin with
  | some (x, n', m), [], [] => if (G.xs x).isSome then tryW G x n' m r else .bad
  | _, _, _ => .bad
theorem tryR_eq {n : Nat} {G : Cn} {hs : List ExceptHandler} {body orelse fin : List Stmt} {pos : Pos} {s : Sl} {w : Wd} : ex (n + 1) G (.Try body hs orelse fin pos) s w = tryR G hs orelse fin (execs (ex n G) body s w) := rfl
theorem tryR_n {G : Cn} {hs : List ExceptHandler} {o f : List Stmt} {r : R Out} (h : clause hs = none) : tryR G hs o f r = .bad := by
  unfold tryR
  rw [h]
theorem tryR_o {G : Cn} {hs : List ExceptHandler} {a : Stmt} {b f : List Stmt} {r : R Out} : tryR G hs (a :: b) f r = .bad := by
  unfold tryR
  cases clause hs <;> rfl
theorem tryR_f {G : Cn} {hs : List ExceptHandler} {a : Stmt} {b : List Stmt} {r : R Out} : tryR G hs [] (a :: b) r = .bad := by
  unfold tryR
  cases clause hs <;> rfl
theorem tryR_s {G : Cn} {hs : List ExceptHandler} {r : R Out} {x n m : Str} (h : clause hs = some (x, n, m)) : tryR G hs [] [] r = if (G.xs x).isSome = true then tryW G x n m r else .bad := by
  unfold tryR
  rw [h]
theorem raisW_no {G : Cn} {e c : Option Expr} {s : Sl} {w : Wd} (h : ∀ x p m k p2 p3, e = some (.Call (.Name x p) [.Constant (.str m) k p2] [] p3) → c = none → False) : raisW G e c s w = .bad := by
  unfold raisW
  split
  · exact (h _ _ _ _ _ _ rfl rfl).elim
  · rfl
/-- no call that may be super() -/
def notSup : Expr → Bool
  | .Call (.Name _ _) [] _ _ => false
  | _ => true
def chkS : Nat → List Str → Scope → Stmt → Bool
  | 0, _, _, _ => false
  | n + 1, N, sc, st => match st with
    | .Assign ts e _ => (match ts with
      | [t] => chkAsg N sc t e && chk evF N sc e
      | _ => false)
    | .AugAssign t _ e _ => (match t with
      | .Name x _ => locB sc x && chk evF N sc e
      | _ => false)
    | .If c a b _ => chk evF N sc c && noIf c && a.all (chkS n N sc) && b.all (chkS n N sc)
    | .For tg iter body orelse _ => chk evF N sc iter && argsOk (chk evF N sc) iter && chkTgF sc tg && body.all (chkS n N sc) && orelse.isEmpty
    | .While c body orelse _ => chk evF N sc c && noIf c && body.all (chkS n N sc) && orelse.isEmpty
    | .Return e _ => (match e with
      | none => true
      | some e => chk evF N sc e)
    | .Expr e _ => (match isMut e with
      | some (x, _, a) => nameB N sc x && chk evF N sc a && lineOk e
      | none => (match isApp e with
        | some (c, a) => chk evF N sc c && chk evF N sc a && lineOk e && notSup c
        | none => chk evF N sc e && notComp e))
    | .Raise e c _ => chkRz sc e c
    | .Try body hs _ _ _ => body.all (chkS n N sc) && chkCl N sc hs
    | _ => true
section
variable {X : Cx} {G : Cn} {E : En} {n k : Nat} {pos p : Pos} {e a b c t : Expr}
theorem gl_call {n : Nat} {N : List Str} {sc : Scope} {gn : Str} {pg pr : Pos} {as : List Expr} {kw : List Keyword} (h : chk (n + 1) N sc (.Call (.Name gn pg) as kw pr) = true) : glB sc gn = true := by
  simp only [chk, Bool.and_eq_true] at h
  exact h.2
theorem ps_bad {st : Stmt} {f : Sl → Wd → R Out} (h : ∀ s w, f s w = .bad) : PS X st (tX X.K E f) := ⟨fun pins sh σ H D I ⟨s, O, g, w, fr, st, q⟩ => by rw [h] at q; exact q.elim⟩
theorem tgF_ok {sc : Scope} (h : chkTgF sc t = true) : (∀ x px, (t = .Name x px ∨ ∃ es k p, t = .Tuple es k p ∧ .Name x px ∈ es) → Loc sc x) ∧ ∀ es k p, t = .Tuple es k p → ∀ e ∈ es, ∃ x px, e = .Name x px := by
  cases t with
  | Name x px =>
    refine ⟨fun y py hy => ?_, fun es k p he => by cases he⟩
    rcases hy with hy | ⟨es, k, p, hy, _⟩
    · cases hy; exact loc_of h
    · cases hy
  | Tuple es kk pp =>
    have h2 := List.all_eq_true.mp (show es.all (chkNm sc) = true from h)
    refine ⟨fun y py hy => ?_, fun es' k p he e hm => ?_⟩
    · rcases hy with hy | ⟨es', k, p, hy, hm⟩
      · cases hy
      · cases hy; exact loc_of (h2 _ hm)
    · cases he
      have := h2 e hm
      cases e <;> first | exact ⟨_, _, rfl⟩ | (simp [chkNm] at this)
  | _ => simp [chkTgF, chkNm] at h
theorem sole_tup {ts : List Expr} {kt : Nat} {pt : Pos} {l : Nat} (h : notComp e = true ∨ True) : swapsWithSole [.Tuple ts kt pt] e l X.env = pure false := by
  cases e <;> rfl
theorem sole_sub {o i : Expr} {pt : Pos} {l : Nat} : swapsWithSole [.Subscript o i pt] e l X.env = pure false := by
  cases e <;> rfl
theorem swn_tup {ts : List Expr} {kt : Nat} {pt : Pos} (h : ∀ vs k p, e ≠ .Tuple vs k p) : swappedStores [.Tuple ts kt pt] e X.env = pure none := by
  cases e <;> first | rfl | exact absurd rfl (h _ _ _)
theorem ss_asg (gd : GoodS X G k E) (h1 : chkAsg G.N X.env.scope t e = true) (h2 : chk evF G.N X.env.scope e = true) : PS X (.Assign [t] e pos) (tX X.K E fun s w => (asgW G (ev evF G) t e s w).bind fun s w => .ok (.nxt s) w) := by
  have pe := (sound_e evF gd.toGood h2).1
  cases t with
  | Name x px => exact ss_name (n := 39) gd (fun i _ => loc_of h1) h2
  | Subscript o b pb => exact ss_sub (n := evF) gd h1 pe sole_sub
  | Tuple tts kt pt =>
    by_cases he : ∃ vs k2 p2, e = .Tuple vs k2 p2
    · obtain ⟨vs, k2, p2, rfl⟩ := he
      have h1 : (match swapP X.env.scope tts vs with
        | some none => tts.all (chkSt evF G.N X.env.scope)
        | some (some [x, y]) => chkPar G.N X.env.scope tts x y
        | _ => false) = true := h1
      split at h1
      · rename_i hsw
        exact ss_tup (n := evF) gd (List.all_eq_true.mp h1) pe (sole_tup (.inr trivial)) (swap_eq gd.kind hsw)
      · rename_i x y hsw
        have hw := swap_eq (k := kt) (k2 := k2) (p := pt) (p2 := p2) gd.kind hsw
        have hvs : vs.length = tts.length := by
          unfold swapP at hsw
          cases q : (!(tts.length == 2 || tts.length == 3) || vs.length != tts.length) with
          | true => rw [q] at hsw; cases hsw
          | false =>
            simp only [Bool.or_eq_false_iff, bne_eq_false_iff_eq] at q
            exact q.2
        unfold chkPar at h1
        split at h1
        · rename_i x' px y' py
          simp only [Bool.and_eq_true, decide_eq_true_eq] at h1
          obtain ⟨⟨⟨⟨⟨⟨rfl, rfl⟩, l1⟩, l2⟩, i1⟩, i2⟩, ne⟩ := h1
          obtain ⟨i, hi⟩ := Option.isSome_iff_exists.mp i1
          obtain ⟨j, hj⟩ := Option.isSome_iff_exists.mp i2
          match vs, hvs, h2, hw with
          | [a, b], _, h2, hw =>
            have h3 : ∀ e ∈ [a, b], chk 39 G.N X.env.scope e = true := by
              have : [a, b].all (chk 39 G.N X.env.scope) = true := h2
              exact List.all_eq_true.mp this
            exact ss_par (n := 39) gd hi hj (fun z => ne (by rw [hi, hj, z])) l1 l2 h3 (fun e he => (sound_e 39 gd.toGood (h3 e he)).1) hw
        · cases h1
      · cases h1
    · have hne : ∀ vs k p, e ≠ .Tuple vs k p := fun vs k p z => he ⟨vs, k, p, z⟩
      have h1 : tts.all (chkSt evF G.N X.env.scope) = true := by
        unfold chkAsg at h1
        dsimp only at h1
        split at h1
        · exact absurd rfl (hne _ _ _)
        · exact h1
      exact ss_tup (n := evF) gd (List.all_eq_true.mp h1) pe (sole_tup (.inr trivial)) (swn_tup hne)
  | _ => cases h1
theorem clause_some {hs : List ExceptHandler} {x nn m : Str} (h : clause hs = some (x, nn, m)) : ∃ np mp np2 ap pos2, hs = [.ExceptHandler (some (.Name x np)) (some nn) [.Assign [.Name m mp] (.Name nn np2) ap] pos2] := by
  unfold clause at h
  split at h
  · split at h
    · rename_i e
      cases h
      subst e
      exact ⟨_, _, _, _, _, rfl⟩
    · cases h
  · cases h
theorem exc_bind {α β : Type} {m : R α} {f : α → Wd → R β} {c : Str} {w' : Wd} (h : m.bind f = .exc c w') (hf : ∀ a w, f a w ≠ .exc c w') : m = .exc c w' := by
  cases m with
  | ok a w => exact absurd h (hf a w)
  | exc c2 w2 =>
    have h : (R.exc c2 w2 : R β) = .exc c w' := h
    cases h
    rfl
  | bad => cases h
theorem ss_ctch1 {st0 : Stmt} {m : Sl → Wd → R Out} (old : PS X st0 (tX X.K E m)) (h0 : ∀ s w c w', m s w = .exc c w' → topB evF G s e w = false) : PS X st0 (tX X.K E fun s w => ctch G e s w (m s w)) := by
  refine old.imp fun D σ H ⟨s, O, g, w, f, st, h⟩ => ⟨s, O, g, w, f, st, ?_⟩
  dsimp only at h
  unfold ctch at h
  cases hv : m s w with
  | ok o w1 => rw [hv] at h; exact h
  | bad => rw [hv] at h; exact h
  | exc c w1 =>
    rw [hv] at h
    dsimp only at h
    rw [h0 _ _ _ _ hv, if_neg Bool.false_ne_true] at h
    exact h
theorem mut_top {x m : Str} {a : Expr} {px pa pc : Pos} {s : Sl} {w w' : Wd} {c : Str} (h : (mutW G (ev evF G) x m a s w).bind (fun s w => (.ok (.nxt s) w : R Out)) = .exc c w') : topB evF G s (.Call (.Attribute (.Name x px) m pa) [a] [] pc) w = false := by
  have h := exc_bind h fun _ _ z => by cases z
  unfold mutW at h
  cases hi : idx G.N x with
  | none => rw [hi] at h; cases h
  | some i =>
    rw [hi] at h
    dsimp only at h
    split at h
    · rename_i ds hs
      have e1 : topB evF G s (.Call (.Attribute (.Name x px) m pa) [a] [] pc) w = (match ev 39 G s (.Name x px) w with
        | .ok y w1 => (spcK y).isSome && okR (evsW (ev 39 G s) [a] w1)
        | _ => false) := rfl
      have e2 : ev 39 G s (.Name x px) w = nameW G x s w := rfl
      rw [e1, e2]
      unfold nameW
      rw [hi]
      dsimp only
      rw [hs]
      rfl
    · cases h
theorem isApp_some {e c a : Expr} (h : isApp e = some (c, a)) : ∃ g as ks p pa pc, e = .Call (.Attribute (.Call g as ks p) "append" pa) [a] [] pc ∧ c = .Call g as ks p := by
  unfold isApp at h
  split at h
  · split at h
    · rename_i e1
      subst e1
      cases h
      exact ⟨_, _, _, _, _, _, rfl, rfl⟩
    · cases h
  · cases h
theorem base_call {g : Expr} {as : List Expr} {ks : List Keyword} {p : Pos} {m : Str} {env : Env} (h : notSup (.Call g as ks p) = true) : attributeBase (.Call g as ks p) m env (eval (.Call g as ks p) env) = eval (.Call g as ks p) env := by
  cases g with
  | Name x px =>
    cases as with
    | nil => cases h
    | cons a r => rfl
  | _ => rfl
/-- f(..).append(a) -/
theorem ss_app {g aa : Expr} {as : List Expr} {ks : List Keyword} {p0 pa pc : Pos} (gd : GoodS X G k E) (hc0 : chk n G.N X.env.scope (.Call g as ks p0) = true) (hc : chk n G.N X.env.scope aa = true) (hl : (pa.endLine == pc.line) = true) (hns : notSup (.Call g as ks p0) = true) :
    PS X (.Expr (.Call (.Attribute (.Call g as ks p0) "append" pa) [aa] [] pc) pos) (tX X.K E fun s w => (appW G (ev n G) (.Call g as ks p0) aa s w).bind fun s w => .ok (.nxt s) w) := by
  have pv := (sound_e n gd.toGood hc0).1
  have A : PA X [aa] (tA X.K n G [aa]) := sv_args (es := [aa]) (fun e he => by rw [List.mem_singleton.mp he]; exact hc) fun e he => by rw [List.mem_singleton.mp he]; exact (sound_e n gd.toGood hc).1
  refine (ps_expr (pe_bm PySem.F.plainAttrs_list PySem.F.slot_list_append PySem.F.type_list_append mt_append pv A (base_call hns) (few_of hc) hl (star_of hc) rfl) rfl).imp fun D σ H ⟨s, O, g0, w, f, st, h⟩ => ?_
  have h := h.of_bind
  unfold appW at h
  refine ⟨s, O, g0, w, f.sr, st, ?_⟩
  cases hv : ev n G s (.Call g as ks p0) w with
  | bad => rw [hv] at h; exact h
  | exc c w1 => rw [hv] at h; exact h
  | ok rv w1 =>
    rw [hv] at h
    simp only [R.bind_ok] at h
    intro H1 O1 g1 e1 s1 v rr
    cases rv with
    | val d => exact (h : False).elim
    | bor d => exact (h : False).elim
    | own ds =>
      dsimp only at h
      by_cases hlt : ds.length < cap
      · rw [if_pos hlt] at h
        obtain ⟨al, rfl, o, nw, h0, vs, l1, l2⟩ := rr
        refine ⟨.inl ⟨rfl, vs, SqL.of l1⟩, s, O1, g1, w1, f.sr.evo st e1, s1, ?_⟩
        rw [evsW_one]
        cases hv2 : ev n G s aa w1 with
        | bad => rw [hv2] at h; exact h
        | exc c w2 => rw [hv2] at h; exact h
        | ok ry w2 =>
          rw [hv2] at h
          simp only [R.bind_ok] at h ⊢
          intro H2 O2 g2 e2 s2 us ru
          cases ru with
          | @cons y _ us' _ r1 rt =>
            cases rt
            have nw2 := WA.of_evo e2 (by rw [l1]; simp) nw
            have k2 := e2.keep _ _ l1 nw
            have k3 := s1.reps e2 l2
            have e12 := e1.trans e2
            refine ⟨al, vs, y, rfl, rfl, k2, by rw [k3.length]; exact Nat.lt_of_lt_of_le hlt cap_line, ?_⟩
            have o2 := e2.omono _ o
            have e3 : Evo H O g0 (upd H2 al (.lst (vs ++ [y]))) O2 g2 := e12.mut h0
            refine h _ _ _ _ ⟨?_, s2.mut k2 nw2, e3.s st.wf⟩
            exact f.evo st e3
      · rw [if_neg hlt] at h
        exact (h : False).elim
/-- THE SOUNDNESS of statements -/
theorem sound_s : ∀ (n : Nat) {X : Cx} {E : En} {st : Stmt}, GoodS X G k E → chkS n G.N X.env.scope st = true → PS X st (tX X.K E (ex n G st)) := by
  intro n
  induction n with
  | zero => intro X E st gd hc; simp [chkS] at hc
  | succ n ih =>
    intro X E st gd hc
    have blk : ∀ {body : List Stmt}, body.all (chkS n G.N X.env.scope) = true → PSs X body (tX X.K E (execs (ex n G) body)) := fun h => sx_seq fun st hs => ih gd (List.all_eq_true.mp h st hs)
    cases st with
    | Assign ts e pos =>
      match ts, hc with
      | [t], hc =>
        have hc : (chkAsg G.N X.env.scope t e && chk evF G.N X.env.scope e) = true := hc
        simp only [Bool.and_eq_true] at hc
        have old := ss_asg (pos := pos) gd hc.1 hc.2
        cases t with
        | Name x px =>
          have top := top_e evF gd hc.2
          by_cases hlc : ∃ el gs sc p, (e = .ListComp el gs sc p ∨ e = .SetComp el gs sc p) ∨ ∃ v, e = .DictComp el v gs sc p
          · refine ss_ctch0 old fun s w => ?_
            obtain ⟨el, gs, sc, p, (rfl | rfl) | ⟨v, rfl⟩⟩ := hlc <;> rfl
          · have sw : swapsWith e (some (.Name x px)) pos.line X.env = pure false := by
              rcases sole_name (X := X) (a := e) (x := x) (px := px) (l := pos.line) with h | h
              · exact h
              · exact absurd h hlc
            cases hi : idx G.N x with
            | none =>
              refine ps_bad fun s w => ?_
              show ctch G e s w ((asgW G (ev evF G) (.Name x px) e s w).bind _) = .bad
              simp only [asgW, hi]
              rfl
            | some i =>
              refine ss_ctch old ((ps_set gd.nd (by rw [gd.N]; exact idx_get hi) (loc_of hc.1) top sw (.inl (gd.fn x))).imp fun D σ H h => h) fun s w c w' h => ?_
              have h := exc_bind h fun _ _ z => by cases z
              simp only [asgW, hi] at h
              split at h
              · split at h <;> cases h
              split at h
              · cases h
              split at h
              · cases h
              · refine exc_bind h fun v w2 z => ?_
                unfold asgN at z
                split at z
                · cases z
                · split at z <;> cases z
                · cases z
        | _ => exact old
      | [], hc => cases hc
      | _ :: _ :: _, hc => cases hc
    | AugAssign t op e pos =>
      cases t with
      | Name x px =>
        have hc : (locB X.env.scope x && chk evF G.N X.env.scope e) = true := hc
        simp only [Bool.and_eq_true] at hc
        exact ss_aug gd hc.1 (sound_e evF gd.toGood hc.2).1
      | _ => cases hc
    | If c a b pos =>
      have hc : (chk evF G.N X.env.scope c && noIf c && a.all (chkS n G.N X.env.scope) && b.all (chkS n G.N X.env.scope)) = true := hc
      simp only [Bool.and_eq_true] at hc
      exact ss_if ((sound_e evF gd.toGood hc.1.1.1).2 hc.1.1.2) (blk hc.1.2) (blk hc.2)
    | While c body orelse pos =>
      have hc : (chk evF G.N X.env.scope c && noIf c && body.all (chkS n G.N X.env.scope) && orelse.isEmpty) = true := hc
      simp only [Bool.and_eq_true, List.isEmpty_iff] at hc
      obtain ⟨⟨⟨h1, h2⟩, h3⟩, rfl⟩ := hc
      exact ss_while gd ((sound_e evF gd.toGood h1).2 h2) (blk h3)
    | For tg iter body orelse pos =>
      have hc : (chk evF G.N X.env.scope iter && argsOk (chk evF G.N X.env.scope) iter && chkTgF X.env.scope tg && body.all (chkS n G.N X.env.scope) && orelse.isEmpty) = true := hc
      simp only [Bool.and_eq_true, List.isEmpty_iff] at hc
      obtain ⟨⟨⟨⟨h1, h2⟩, h3⟩, h4⟩, rfl⟩ := hc
      obtain ⟨t1, t2⟩ := tgF_ok h3
      refine ss_for gd ?_ (sv_tg gd.calm gd.nd gd.N (fun x px hx i _ => ⟨t1 x px hx, .inl (gd.fn x)⟩) t2) (blk h4) (folded_of h1)
      refine sv_iter gd.toGood h1 (sound_e evF gd.toGood h1).1 (fun as hr e he => ?_) fun gn pg as pr he => ?_
      · obtain ⟨gn, pg, pr, rfl, g1, g2⟩ := isRange_some hr
        have ha2 : ∀ e ∈ as, chk evF G.N X.env.scope e = true := by simpa [argsOk, List.all_eq_true] using h2
        exact ⟨ha2 e he, (sound_e evF gd.toGood (ha2 e he)).1⟩
      · subst he
        exact gl_call (n := 39) h1
    | Return e pos =>
      cases e with
      | none => exact ps_retN.imp fun D σ H ⟨s, O, g, w, fr, st, h⟩ => h _ _ _ _ fr.ev st .non
      | some e =>
        refine ss_ctch (ss_ret (n := 39) gd hc) ((ps_ret (top_e evF gd hc)).imp fun D σ H h => h) fun s w c w' h => ?_
        have h : retW G (ev evF G s) e s w = .exc c w' := h
        unfold retW at h
        split at h
        · cases h
        · refine exc_bind h fun v w2 z => ?_
          split at z <;> cases z
    | Expr e pos =>
      cases hm : isMut e with
      | some xma =>
        obtain ⟨x, m, aa⟩ := xma
        obtain ⟨px, pa, pc, rfl, hmm⟩ := isMut_some hm
        have hc : (nameB G.N X.env.scope x && chk evF G.N X.env.scope aa && lineOk (.Call (.Attribute (.Name x px) m pa) [aa] [] pc)) = true := by
          have : chkS (n + 1) G.N X.env.scope (.Expr (.Call (.Attribute (.Name x px) m pa) [aa] [] pc) pos) = true := hc
          simp only [chkS, hm] at this
          exact this
        simp only [Bool.and_eq_true] at hc
        refine (ss_ctch1 (G := G) (e := .Call (.Attribute (.Name x px) m pa) [aa] [] pc) (ss_mut gd hmm hc.1.1 hc.1.2 hc.2) fun s w c w' hx => mut_top hx).imp fun D σ H ⟨s, O, g, w, fr, st, h⟩ => ⟨s, O, g, w, fr, st, ?_⟩
        simp only [ex, exprW, hm] at h
        exact h
      | none =>
       cases hap : isApp e with
       | some ca =>
        obtain ⟨cc, aa⟩ := ca
        obtain ⟨g, as, ks, p0, pa, pc, rfl, rfl⟩ := isApp_some hap
        have hc : (chk evF G.N X.env.scope (.Call g as ks p0) && chk evF G.N X.env.scope aa && lineOk (.Call (.Attribute (.Call g as ks p0) "append" pa) [aa] [] pc) && notSup (.Call g as ks p0)) = true := by
          have : chkS (n + 1) G.N X.env.scope (.Expr (.Call (.Attribute (.Call g as ks p0) "append" pa) [aa] [] pc) pos) = true := hc
          simp only [chkS, hm, hap] at this
          exact this
        simp only [Bool.and_eq_true] at hc
        refine (ss_ctch0 (G := G) (e := .Call (.Attribute (.Call g as ks p0) "append" pa) [aa] [] pc) (ss_app gd hc.1.1.1 hc.1.1.2 hc.1.2 hc.2) fun s w => rfl).imp fun D σ H ⟨s, O, g, w, fr, st, h⟩ => ⟨s, O, g, w, fr, st, ?_⟩
        simp only [ex, exprW, hm, hap] at h
        exact h
       | none =>
         have hc : (chk evF G.N X.env.scope e && notComp e) = true := by
           have : chkS (n + 1) G.N X.env.scope (.Expr e pos) = true := hc
           simp only [chkS, hm, hap] at this
           exact this
         simp only [Bool.and_eq_true] at hc
         have hsw : swapsWith e none pos.line X.env = pure false := by
           have := hc.2
           cases e <;> first | rfl | cases this
         have old : PS X (.Expr e pos) (tX X.K E fun s w => (exprW G (ev evF G) e s w).bind fun s w => .ok (.nxt s) w) := by
          refine (ps_expr (sound_e evF gd.toGood hc.1).1 hsw).imp fun D σ H ⟨s, O, g, w, fr, st, h⟩ => ⟨s, O, g, w, fr.sr, st, ?_⟩
          simp only [exprW, hm, hap] at h
          cases hv : ev evF G s e w with
          | exc c w1 => rw [hv] at h; exact h
          | bad => rw [hv] at h; exact h
          | ok r w1 =>
            rw [hv] at h
            intro H1 O1 g1 e1 s1 v rv
            exact h _ _ _ _ ⟨fr.evo st e1, s1, e1.s st.wf⟩
         refine ss_ctch old ((ps_expr (top_e evF gd hc.1) hsw).imp fun D σ H h => h) fun s w c w' h => ?_
         have h := exc_bind h fun _ _ z => by cases z
         simp only [exprW, hm, hap] at h
         exact exc_bind h fun _ _ z => by cases z
    | Raise e c pos =>
      have hc : chkRz X.env.scope e c = true := hc
      unfold chkRz at hc
      split at hc
      · exact ss_raise gd hc
      · rename_i hne
        exact ps_bad fun s w => raisW_no fun x p m k p2 p3 h1 h2 => hne _ _ _ _ _ _ h1 h2
    | Try body hs orelse fin pos =>
      have hc : (body.all (chkS n G.N X.env.scope) && chkCl G.N X.env.scope hs) = true := hc
      simp only [Bool.and_eq_true] at hc
      obtain ⟨hb, hcc⟩ := hc
      unfold chkCl at hcc
      cases hcl : clause hs with
      | none => exact ps_bad fun s w => by rw [tryR_eq, tryR_n hcl]
      | some q =>
        obtain ⟨x, nn, m⟩ := q
        rw [hcl] at hcc
        dsimp only at hcc
        cases orelse with
        | cons o1 o2 => exact ps_bad fun s w => by rw [tryR_eq, tryR_o]
        | nil =>
          cases fin with
          | cons o1 o2 => exact ps_bad fun s w => by rw [tryR_eq, tryR_f]
          | nil =>
            by_cases hxs : (G.xs x).isSome = true
            · simp only [Bool.and_eq_true, decide_eq_true_eq, Bool.not_eq_true'] at hcc
              obtain ⟨np, mp, np2, ap, pos2, rfl⟩ := clause_some hcl
              obtain ⟨⟨⟨⟨⟨⟨c1, c2⟩, c3⟩, c4⟩, c5⟩, c6⟩, c7⟩ := hcc
              obtain ⟨i, hi⟩ := Option.isSome_iff_exists.mp c6
              obtain ⟨j, hj⟩ := Option.isSome_iff_exists.mp c7
              refine (ss_try (f := ex n G) (pos := pos) gd c1 hxs hi hj c2 c3 c4 c5 fun {X' E'} k1 k2 gd' => sx_seq fun st hs => ih gd' (by rw [k2]; exact List.all_eq_true.mp hb st hs)).imp fun D σ H ⟨s, O, g, w, fr, st, h⟩ => ⟨s, O, g, w, fr, st, ?_⟩
              rw [tryR_eq, tryR_s hcl, if_pos hxs] at h
              exact h
            · exact ps_bad fun s w => by rw [tryR_eq, tryR_s hcl, if_neg hxs]
    | Pass pos => exact ps_pass.imp fun D σ H ⟨s, O, g, w, fr, st, h⟩ => h _ _ _ _ ⟨fr, st, EvoS.refl⟩
    | Break pos => exact ps_break.imp fun D σ H ⟨s, O, g, w, fr, st, h⟩ => h _ _ _ _ ⟨fr, st, EvoS.refl⟩
    | Continue pos => exact ps_continue.imp fun D σ H ⟨s, O, g, w, fr, st, h⟩ => h _ _ _ _ ⟨fr, st, EvoS.refl⟩
    | _ => exact ps_bad fun _ _ => rfl
end

/-! ### defs -/
theorem no_start {vs : List D} {w w' : Wd} {c : Str} (h : startT vs w = .exc c w') : False := by
  unfold startT at h
  split at h
  · split at h
    · split at h <;> cases h
    · cases h
  · cases h
theorem no_draw {vs : List D} {w w' : Wd} {c : Str} (h : drawT vs w = .exc c w') : False := by
  unfold drawT at h
  split at h
  · split at h
    · split at h
      · split at h <;> cases h
      · cases h
    · cases h
  · cases h
theorem slots_val {N : List Str} {ds : List D} (i : Nat) (x : RV) (h : (slotsOf N ds)[i]? = some (some x)) : ∃ d, ds[i]? = some d ∧ x = .val d := by
  unfold slotsOf at h
  by_cases hl : i < ds.length
  · rw [List.getElem?_append_left (by simpa using hl), List.getElem?_map] at h
    cases hd : ds[i]? with
    | none => rw [hd] at h; cases h
    | some d => rw [hd] at h; cases h; exact ⟨d, rfl, rfl⟩
  · rw [List.getElem?_append_right (by simp; omega)] at h
    have := List.getElem?_eq_some_iff.mp h
    obtain ⟨_, e⟩ := this
    rw [List.getElem_replicate] at e
    cases e
theorem srep_start {g : Gh} {O : Os} {H : Hp} {N : List Str} {vs : List V} {ds : List D} (r : Reps g O H vs ds) : SRep g O H (L2.start N vs) (slotsOf N ds) := by
  have get : ∀ (i : Nat) (x : RV), (slotsOf N ds)[i]? = some (some x) → ∃ d, ds[i]? = some d ∧ x = .val d := fun i x h => by
    unfold slotsOf at h
    by_cases hl : i < ds.length
    · rw [List.getElem?_append_left (by simpa using hl), List.getElem?_map] at h
      cases hd : ds[i]? with
      | none => rw [hd] at h; cases h
      | some d => rw [hd] at h; cases h; exact ⟨d, rfl, rfl⟩
    · rw [List.getElem?_append_right (by simp; omega)] at h
      have := List.getElem?_eq_some_iff.mp h
      obtain ⟨_, e⟩ := this
      rw [List.getElem_replicate] at e
      cases e
  refine ⟨by unfold slotsOf L2.start; simp [r.length], fun i x h => ?_, fun i j a d1 d2 _ h1 _ _ _ => ?_, fun i j d1 d2 h1 _ => by
    obtain ⟨d, _, e⟩ := get i _ h1
    cases e⟩
  · obtain ⟨d, hd, rfl⟩ := get i x h
    obtain ⟨v, hv, rv⟩ := r.get hd
    refine ⟨v, ?_, rv⟩
    unfold L2.start
    rw [List.getElem?_append_left (by rw [List.length_map]; exact (List.getElem?_eq_some_iff.mp hv).1), List.getElem?_map, hv]
    rfl
  · obtain ⟨d, _, e⟩ := get i _ h1
    cases e
/-- what the top has left of a def -/
structure DefOk (P : Program) (w : World) (K : PySem.W.Frag) (mg : Str → Option Value) (x : Str) (fd : FD) : Prop where
  ex : ∃ f fdat, Fun K x x fd.st f fdat ∧ mg x = some (.ref f) ∧ Binds K fdat (fd.N.take fd.np) [] ∧
    match fd.kd with
    | .body => FnScope fd.N (fd.N.take fd.np) (defScope fd.st) ∧ (fd.N.take fd.np).length = fd.np ∧ (defBody fd.st).all (chkS exF fd.N (defScope fd.st)) = true
    | .start => ∀ base n, FnOk P w K mg base (L2.CX P w) (n + 1) f fdat (fd.N.take fd.np) (spT K startT)
    | .draw => ∀ base n, FnOk P w K mg base (L2.CX P w) (n + 1) f fdat (fd.N.take fd.np) (spT K drawT)
    | _ => True
/-- the doers of the watcher's methods -/
def wKd : List (Str × Kd) := [("Watcher.__init__", .wini), ("Watcher.push", .wpsh), ("Watcher.result", .wres), ("Watcher.change_rule", .wchg), ("Watcher.last_values", .wlst), ("Watcher.undo", .wund), ("Watcher.__len__", .wlen)]
/-- what the top has left of the watchers -/
structure WsOk (P : Program) (w : World) (K : PySem.W.Frag) (mg : Str → Option Value) (pg : Pg) : Prop where
  cls : WCls K
  nm : mg "Watcher" = some (.ref (He.ga K "Watcher"))
  nf : ∀ z fd, pg.ws.lookup z = some fd → pg.fs.lookup z = none
  ini : ∃ fd f fdat ps, pg.ws.lookup ("Watcher.__init__" : Str) = some fd ∧ Mk K (He.ga K "Watcher") f ∧ Binds K fdat ps [] ∧ ∀ base n T, (∀ x, (pg.fs.lookup x).isSome = true → CalA P w K mg base n T x) → FnOk P w K mg base (L2.CX P w) (n + 1) f fdat ps (spI K (watT T fd.kd))
  mth : ∀ m z fd, wTab.lookup m = some z → pg.ws.lookup z = some fd → ∃ f fdat ps, Meth K (He.ga K "Watcher") m f ∧ Binds K fdat ps [] ∧ ∀ base n T, (∀ x, (pg.fs.lookup x).isSome = true → CalA P w K mg base n T x) → (∀ m' z', wTab.lookup m' = some z' → (pg.ws.lookup z').isSome = true → MtOk P w K mg base n T m' z') → FnOk P w K mg base (L2.CX P w) (n + 1) f fdat ps (spT K (watT T fd.kd))
theorem T_ws {pg : Pg} {n : Nat} {z : Str} {fd : FD} {k : Kd} (h1 : pg.fs.lookup z = none) (h2 : pg.ws.lookup z = some fd) (h3 : fd.kd = k) : pg.T (n + 1) z = watT (pg.T n) k := by
  funext vs w
  show (match pg.fs.lookup z with
    | none => (match pg.ws.lookup z with
      | none => R.bad
      | some fd => watT (pg.T n) fd.kd vs w)
    | some fd => _) = _
  rw [h1, h2]
  dsimp only
  rw [h3]
structure PgOk (P : Program) (w : World) (K : PySem.W.Frag) (mg : Str → Option Value) (pg : Pg) : Prop where
  dfs : ∀ x fd, pg.fs.lookup x = some fd → DefOk P w K mg x fd
  blt : ∀ x b, pg.fs.lookup x = none → bltTab.lookup x = some b → mg x = none
  ty : ∀ t ∈ tyNames, mg t = none
  xcl : ∀ c l, pg.xs.lookup c = some l → XcOk K mg (fun x => pg.xs.lookup x) c l
  mve : (∃ c, (pg.xs.lookup c).isSome = true) → mg "ValueError" = none
  wts : (∃ z, (pg.ws.lookup z).isSome = true) → WsOk P w K mg pg
  cst : ∀ x d, pg.cs.lookup x = some d → ∃ v u, mg x = some u ∧ RelV v u ∧ ∀ g O H, Rep g O H v d
/-- what stands at a level -/
def AllF (P : Program) (w : World) (K : PySem.W.Frag) (mg : Str → Option Value) (base : Heap) (pg : Pg) (n : Nat) : Prop := ∀ (x : Str) (fd : FD), pg.fs.lookup x = some fd →
    ∃ f fdat, Fun K x x fd.st f fdat ∧ mg x = some (.ref f) ∧ PySem.W.keepIn K (.ref f) = true ∧ Binds K fdat (fd.N.take fd.np) [] ∧ FnOk P w K mg base (L2.CX P w) (2 * n) f fdat (fd.N.take fd.np) (spT K (pg.T n x))
def AllM (P : Program) (w : World) (K : PySem.W.Frag) (mg : Str → Option Value) (base : Heap) (pg : Pg) (n : Nat) : Prop := ∀ m z, wTab.lookup m = some z → (pg.ws.lookup z).isSome = true → MtOk P w K mg base (2 * n) (pg.T n) m z
theorem AllF.cal {P : Program} {w : World} {K : PySem.W.Frag} {mg : Str → Option Value} {base : Heap} {pg : Pg} {n : Nat} (h : AllF P w K mg base pg n) {x : Str} (hx : (pg.fs.lookup x).isSome = true) : CalA P w K mg base (2 * n) (pg.T n) x := by
  obtain ⟨fd, hf⟩ := Option.isSome_iff_exists.mp hx
  obtain ⟨f, fdat, _, h1, h2, h3, h4⟩ := h x fd hf
  exact ⟨f, fdat, _, h1, h2, h3, h4⟩
theorem allM_zero {P : Program} {w : World} {K : PySem.W.Frag} {mg : Str → Option Value} {base : Heap} {pg : Pg} (ok : PgOk P w K mg pg) : AllM P w K mg base pg 0 := by
  intro m z hm hz
  have W := ok.wts ⟨z, hz⟩
  obtain ⟨fd, hf⟩ := Option.isSome_iff_exists.mp hz
  have none_ : ∀ {f : Addr} {fdat : FuncData} {ps : List Str}, FnOk P w K mg base (L2.CX P w) 0 f fdat ps (spT K (pg.T 0 z)) := ⟨fun vs H Q E ⟨_, _, _, _, _, _, h⟩ => (h : False).elim, fun A outer s H args us vs Q E _ _ _ _ ⟨_, _, _, _, _, _, h⟩ => (h : False).elim⟩
  obtain ⟨f, fdat, ps, h1, h2, _⟩ := W.mth m z fd hm hf
  exact ⟨⟨f, fdat, ps, h1, h2, none_⟩⟩
theorem allM_succ {P : Program} {w : World} {K : PySem.W.Frag} {mg : Str → Option Value} {base : Heap} {pg : Pg} {n : Nat} (ok : PgOk P w K mg pg) (F : AllF P w K mg base pg n) (M : AllM P w K mg base pg n) : AllM P w K mg base pg (n + 1) := by
  intro m z hm hz
  have W := ok.wts ⟨z, hz⟩
  obtain ⟨fd, hf⟩ := Option.isSome_iff_exists.mp hz
  obtain ⟨f, fdat, ps, h1, h2, h3⟩ := W.mth m z fd hm hf
  refine ⟨⟨f, fdat, ps, h1, h2, ?_⟩⟩
  rw [T_ws (W.nf z fd hf) hf rfl]
  exact (h3 base (2 * n) _ (fun x hx => F.cal hx) M).mono (by omega)
theorem wt_ok {P : Program} {w : World} {K : PySem.W.Frag} {mg : Str → Option Value} {base : Heap} {pg : Pg} {n : Nat} (ok : PgOk P w K mg pg) (M : AllM P w K mg base pg n) (F : ∀ j, j ≤ n → AllF P w K mg base pg j) (hz : ∃ z, (pg.ws.lookup z).isSome = true) : WtOk P w K mg base (2 * n) (pg.T n) (fun z => (pg.ws.lookup z).isSome) := by
  have W := ok.wts hz
  refine ⟨fun m z h1 h2 => M m z h1 h2, W.cls.cl, ?_, W.nm⟩
  obtain ⟨fd, f, fdat, ps, hf, h1, h2, h3⟩ := W.ini
  refine ⟨f, fdat, ps, h1, h2, ?_⟩
  cases n with
  | zero => exact ⟨fun vs H Q E ⟨_, _, _, _, _, _, _, _, _, _, _, _, _, _, _, h⟩ => (h : False).elim, fun A outer s H args us vs Q E _ _ _ _ ⟨_, _, _, _, _, _, _, _, _, _, _, _, _, _, _, h⟩ => (h : False).elim⟩
  | succ j =>
    rw [T_ws (W.nf _ fd hf) hf rfl]
    exact (h3 base (2 * j) _ fun x hx => (F j (by omega)).cal hx).mono (by omega)
theorem fn_both {P : Program} {w : World} {K : PySem.W.Frag} {mg : Str → Option Value} {base : Heap} {pg : Pg} (ok : PgOk P w K mg pg) : ∀ (n : Nat), (∀ j, j ≤ n → AllF P w K mg base pg j) ∧ AllM P w K mg base pg n := by
  intro n
  induction n with
  | zero =>
    refine ⟨fun j hj => ?_, allM_zero ok⟩
    obtain rfl : j = 0 := by omega
    intro x fd hx
    obtain ⟨f, fdat, F, m, b, _⟩ := (ok.dfs x fd hx).ex
    exact ⟨f, fdat, F, m, F.kp, b, ⟨fun vs H Q E ⟨_, _, _, _, _, _, h⟩ => (h : False).elim, fun A outer s H args us vs Q E _ _ _ _ ⟨_, _, _, _, _, _, h⟩ => (h : False).elim⟩⟩
  | succ n ihh =>
    obtain ⟨ihF, ihM⟩ := ihh
    have ih := ihF n (Nat.le_refl n)
    refine ⟨fun j hj => ?_, allM_succ ok ih ihM⟩
    by_cases hj2 : j ≤ n
    · exact ihF j hj2
    obtain rfl : j = n + 1 := by omega
    intro x fd hx
    obtain ⟨f, fdat, F, m, b, rest⟩ := (ok.dfs x fd hx).ex
    refine ⟨f, fdat, F, m, F.kp, b, ?_⟩
    have hT : ∀ ds w, pg.T (n + 1) x ds w = if ds.length = fd.np then (match fd.kd with
      | .start => startT ds w
      | .draw => drawT ds w
      | .body => outV (execs (TM.ex exF ⟨pg.T n, fun x => (pg.fs.lookup x).isSome, fun x => pg.cs.lookup x, fd.N, fd.mt, fun x => pg.xs.lookup x, fun x => (pg.ws.lookup x).isSome⟩) (L2.defBody fd.st) (slotsOf fd.N ds) w)
      | _ => .bad) else .bad := fun ds w => by
      show (match pg.fs.lookup x with
        | none => (match pg.ws.lookup x with
          | none => R.bad
          | some fd => watT (pg.T n) fd.kd ds w)
        | some fd => _) = _
      rw [hx]
      try rfl
    have prim : ∀ {T : List D → Wd → R RV}, FnOk P w K mg base (L2.CX P w) (2 * (n + 1)) f fdat (fd.N.take fd.np) (spT K T) → (∀ ds w, (∀ r w', pg.T (n + 1) x ds w = .ok r w' → T ds w = .ok r w') ∧ ∀ c w', pg.T (n + 1) x ds w ≠ .exc c w') → FnOk P w K mg base (L2.CX P w) (2 * (n + 1)) f fdat (fd.N.take fd.np) (spT K (pg.T (n + 1) x)) := fun {T} h e => by
      refine h.imp fun vs H Q E ⟨O, g, w, ds, st, r, q⟩ => ⟨O, g, w, ds, st, r, ?_⟩
      cases hv : pg.T (n + 1) x ds w with
      | ok a w' => rw [hv] at q; rw [(e ds w).1 a w' hv]; exact q
      | exc c w' => exact absurd hv ((e ds w).2 c w')
      | bad => rw [hv] at q; exact (q : False).elim
    have nokd : (∀ ds w, pg.T (n + 1) x ds w = .bad) → FnOk P w K mg base (L2.CX P w) (2 * (n + 1)) f fdat (fd.N.take fd.np) (spT K (pg.T (n + 1) x)) := fun hb => ⟨fun vs H Q E ⟨_, _, w, ds, _, _, h⟩ => by rw [hb] at h; exact (h : False).elim, fun A outer s H args us vs Q E _ _ _ _ ⟨_, _, w, ds, _, _, h⟩ => by rw [hb] at h; exact (h : False).elim⟩
    cases hk : fd.kd with
    | wini => exact nokd fun ds w => by rw [hT, hk]; split <;> rfl
    | wpsh => exact nokd fun ds w => by rw [hT, hk]; split <;> rfl
    | wres => exact nokd fun ds w => by rw [hT, hk]; split <;> rfl
    | wchg => exact nokd fun ds w => by rw [hT, hk]; split <;> rfl
    | wlst => exact nokd fun ds w => by rw [hT, hk]; split <;> rfl
    | wund => exact nokd fun ds w => by rw [hT, hk]; split <;> rfl
    | wlen => exact nokd fun ds w => by rw [hT, hk]; split <;> rfl
    | start =>
      rw [hk] at rest
      refine prim (rest base (2 * n + 1)) fun ds w => ⟨fun r w' h => ?_, fun c w' h => ?_⟩
      · rw [hT, hk] at h
        split at h
        · exact h
        · cases h
      · rw [hT, hk] at h
        split at h
        · exact no_start h
        · cases h
    | draw =>
      rw [hk] at rest
      refine prim (rest base (2 * n + 1)) fun ds w => ⟨fun r w' h => ?_, fun c w' h => ?_⟩
      · rw [hT, hk] at h
        split at h
        · exact h
        · cases h
      · rw [hT, hk] at h
        split at h
        · exact no_draw h
        · cases h
    | body =>
      rw [hk] at rest hT
      obtain ⟨S, hl, hc⟩ := rest
      refine F.okX (k := 2 * n + 1) S (fun vs H Q E ⟨O, g, w, ds, st, r, q⟩ => ?_) fun cdv A outer s H vs Q E hr ⟨O, g, wd, ds, st, r, q⟩ => ?_
      · rw [r.length, hl]
        rw [hT] at q
        split at q
        · assumption
        · exact (q : False).elim
      · have tk0 : Takes (cxOf (L2.CX P w) P w K mg base fd.N x (defScope fd.st) f cdv A outer s H E) (fun cls d _ H' => E cls d H') := takes_of rfl rfl rfl rfl
        have gd : GoodS (cxOf (L2.CX P w) P w K mg base fd.N x (defScope fd.st) f cdv A outer s H E) ⟨pg.T n, fun x => (pg.fs.lookup x).isSome, fun x => pg.cs.lookup x, fd.N, fd.mt, fun x => pg.xs.lookup x, fun x => (pg.ws.lookup x).isSome⟩ (2 * n) ⟨H, O, g, fun c _ H' => E (.ref (CNm.nm c)) none H'⟩ :=
          { calm := rfl, nd := S.nd, N := rfl, kind := S.kind, room1 := hr,
            dfn := fun y hy => by
              obtain ⟨fd', hf⟩ := Option.isSome_iff_exists.mp (show (pg.fs.lookup y).isSome = true from hy)
              obtain ⟨f', fdat', _, h1, h2, h3, h4⟩ := ih y fd' hf
              exact ⟨f', fdat', _, h1, h2, h3, h4⟩
            blt := fun y b hd hb => ok.blt y b (by
              cases hq : pg.fs.lookup y with
              | none => rfl
              | some z =>
                have : (pg.fs.lookup y).isSome = false := hd
                rw [hq] at this; cases this) hb
            ty := ok.ty, cst := ok.cst, po := passes_of rfl, wE := st.wf, fn := fun _ => rfl, xcl := ok.xcl, mve := ok.mve, wts := wt_ok ok ihM ihF, stk := rfl, frm := rfl, ex0 := rfl, tk := tk0.imp fun cls d σ H ⟨c, e1, e2, h⟩ => by subst e1 e2; exact h }
        refine ⟨_, sx_seq fun st0 hs => sound_s exF gd (List.all_eq_true.mp hc st0 hs), slotsOf fd.N ds, O, g, wd, ⟨srep_start r, Evo.refl, fun i es a h1 h2 => ?_, fun i es a h1 h2 => by
          obtain ⟨d, _, e⟩ := slots_val i _ h1
          cases e⟩, st, ?_⟩
        · obtain ⟨v, k1, k2⟩ := (srep_start (N := fd.N) r).at' i _ h1
          exfalso
          unfold slotsOf at h1
          by_cases hl : i < ds.length
          · rw [List.getElem?_append_left (by simpa using hl), List.getElem?_map] at h1
            cases hd : ds[i]? with
            | none => rw [hd] at h1; cases h1
            | some d => rw [hd] at h1; cases h1
          · rw [List.getElem?_append_right (by simp; omega)] at h1
            obtain ⟨_, e⟩ := List.getElem?_eq_some_iff.mp h1
            rw [List.getElem_replicate] at e
            cases e
        · rw [hT] at q
          split at q
          · unfold outV at q
            generalize execs _ (L2.defBody fd.st) (slotsOf fd.N ds) wd = m at q ⊢
            cases m with
            | exc c w1 => exact (q : False).elim
            | bad => exact q
            | ok o w1 =>
              cases o with
              | nxt s1 => exact fun σ' H' O' g' ⟨f', st', _⟩ => q _ _ _ f'.ev st' _ .non
              | ret v => exact fun v' H' O' g' ee ss rv => q _ _ _ ee ss v' rv
              | rs c s1 => exact fun σ' H' O' g' ⟨f', st', _⟩ => q _ _ _ f'.ev st'
              | brk s1 => exact (q : False).elim
              | cnt s1 => exact (q : False).elim
          · exact (q : False).elim
theorem fn_ok {P : Program} {w : World} {K : PySem.W.Frag} {mg : Str → Option Value} {base : Heap} {pg : Pg} (ok : PgOk P w K mg pg) (n : Nat) : AllF P w K mg base pg n := (fn_both ok n).1 n (Nat.le_refl n)
end TM

namespace TM
open PySem PySem.Spec PyProof.Rows L2
variable [CNm]

/-! ### the law's two doers: a draw, the start -/
theorem Paired.getR {α β : Type} {F : α → β → Prop} : ∀ {l : List α} {m : List β} {k : Nat} {y : β}, Paired F l m → m[k]? = some y → ∃ x, l[k]? = some x ∧ F x y
  | _, _, _, _, .nil, h => by simp at h
  | _, _, 0, _, .cons r t, h => by simp at h; subst h; exact ⟨_, rfl, r⟩
  | _, _, k + 1, y, .cons r t, h => by
    obtain ⟨x, h1, h2⟩ := Paired.getR (k := k) (y := y) t (by simpa using h)
    exact ⟨x, by simpa using h1, h2⟩
theorem Paired.setR {α β : Type} {F F' : α → β → Prop} {y' : β} : ∀ {l : List α} {m : List β} {k : Nat}, Paired F l m → (∀ (j : Nat) x y, j ≠ k → l[j]? = some x → m[j]? = some y → F x y → F' x y) → (∀ x, l[k]? = some x → F' x y') → Paired F' l (m.set k y')
  | _, _, _, .nil, _, _ => by simp; exact .nil
  | _, _, 0, .cons (a := a) (b := b) r t, h, hk => by
    refine .cons (hk a rfl) ?_
    have : ∀ {l : List α} {m : List β}, Paired F l m → (∀ (j : Nat) x y, l[j]? = some x → m[j]? = some y → F x y → F' x y) → Paired F' l m := by
      intro l m p
      induction p with
      | nil => intro _; exact .nil
      | cons r t ih => intro h; exact .cons (h 0 _ _ rfl rfl r) (ih fun j x y h1 h2 => h (j + 1) x y (by simpa using h1) (by simpa using h2))
    exact this t fun j x y h1 h2 => h (j + 1) x y (by omega) (by simpa using h1) (by simpa using h2)
  | _, _, k + 1, .cons r t, h, hk => by
    refine .cons (h 0 _ _ (by omega) rfl rfl r) ?_
    exact Paired.setR t (fun j x y hj h1 h2 => h (j + 1) x y (by omega) (by simpa using h1) (by simpa using h2)) fun x hx => hk x (by simpa using hx)
theorem adr_apart : ∀ {g : Gh} {j k : Nat} {o o' : GO}, (g.flatMap GO.adr).Nodup → g[j]? = some o → g[k]? = some o' → j ≠ k → ∀ x ∈ o.adr, x ∉ o'.adr
  | [], _, _, _, _, _, h, _, _, _, _ => by simp at h
  | a :: r, 0, 0, _, _, _, _, _, hn, _, _ => absurd rfl hn
  | a :: r, 0, k + 1, o, o', nd, h1, h2, _, x, hx => fun hx' => by
    simp at h1
    subst h1
    rw [List.flatMap_cons, List.nodup_append] at nd
    have : o' ∈ r := List.mem_of_getElem? (by simpa using h2)
    exact nd.2.2 x hx x (List.mem_flatMap.mpr ⟨o', this, hx'⟩) rfl
  | a :: r, j + 1, 0, o, o', nd, h1, h2, _, x, hx => fun hx' => by
    simp at h2
    subst h2
    rw [List.flatMap_cons, List.nodup_append] at nd
    have : o ∈ r := List.mem_of_getElem? (by simpa using h1)
    exact nd.2.2 x hx' x (List.mem_flatMap.mpr ⟨o, this, hx⟩) rfl
  | a :: r, j + 1, k + 1, o, o', nd, h1, h2, hn, x, hx => by
    rw [List.flatMap_cons, List.nodup_append] at nd
    exact adr_apart nd.2.1 (by simpa using h1) (by simpa using h2) (by omega) x hx
theorem nd_one : ∀ {g : Gh} {o : GO}, (g.flatMap GO.adr).Nodup → o ∈ g → o.adr.Nodup
  | a :: r, o, nd, h => by
    rw [List.flatMap_cons, List.nodup_append] at nd
    rcases List.mem_cons.mp h with rfl | h
    · exact nd.1
    · exact nd_one nd.2.1 h
/-- the draws' object moves on -/
theorem St3.draw {K : PySem.W.Frag} {H H' : Hp} {O : Os} {g : Gh} {w : Wd} {k : Nat} {a b : Addr} {ns ns' : List Int} {c c' : Int} (st : St3 K H O g w) (hg : g[k]? = some (.drw a b)) (hw : w[k]? = some (.drw ns c)) (ha : H' a = some (.lst [.ref b, .int c'])) (hb : H' b = some (.lst (ns'.map V.int))) (ho : ∀ x, x ≠ a → x ≠ b → H' x = H x) :
    Evo H O g H' O g ∧ St3 K H' O g (w.set k (.drw ns' c')) := by
  have wa : WA g a := ⟨_, List.mem_of_getElem? hg, by simp [GO.adr]⟩
  have wb : WA g b := ⟨_, List.mem_of_getElem? hg, by simp [GO.adr]⟩
  have ne : ∀ x, ¬ WA g x → x ≠ a ∧ x ≠ b := fun x n => ⟨fun z => n (by rw [z]; exact wa), fun z => n (by rw [z]; exact wb)⟩
  have there : ∀ x, H x ≠ none → H' x ≠ none := fun x h => by
    by_cases h1 : x = a
    · rw [h1, ha]; simp
    · by_cases h2 : x = b
      · rw [h2, hb]; simp
      · rw [ho x h1 h2]; exact h
  refine ⟨⟨fun x o h n => by rw [ho x (ne x n).1 (ne x n).2]; exact h, there, fun _ z => z, fun _ z => .inl z, List.prefix_refl _, fun _ z => .inl z⟩, ⟨st.wf.wao, fun x z => there x (st.wf.oal x z), fun x z vs => ?_⟩, ⟨?_, st.wr.nd⟩⟩
  · by_cases h1 : x = a
    · rw [h1, ha]; intro e; cases e
    · by_cases h2 : x = b
      · rw [h2, hb]; intro e; cases e
      · rw [ho x h1 h2]; exact st.wf.ot x z vs
  · refine Paired.setR st.wr.pr (fun j o y hj h1 h2 h => ?_) fun o h => ?_
    · have ap := adr_apart st.wr.nd h1 hg hj
      cases o with
      | drw p q => cases y with
        | drw ms d =>
          have n1 := ap p (by simp [GO.adr])
          have n2 := ap q (by simp [GO.adr])
          simp only [GO.adr, List.mem_cons, List.not_mem_nil, or_false, not_or] at n1 n2
          exact ⟨by rw [ho p n1.1 n1.2]; exact h.1, by rw [ho q n2.1 n2.2]; exact h.2⟩
        | _ => exact h.elim
      | wat p q r => cases y with
        | wat sz nm nb ms =>
          have n1 := ap p (by simp [GO.adr])
          have n2 := ap q (by simp [GO.adr])
          have n3 := ap r (by simp [GO.adr])
          simp only [GO.adr, List.mem_cons, List.not_mem_nil, or_false, not_or] at n1 n2 n3
          obtain ⟨t, h1, h2, h3, h4⟩ := h
          have ta : t ≠ a := fun z => by
            obtain ⟨u, e, e2, _⟩ := st.wr.ob wa
            rw [z, e] at h3; cases h3; exact e2 _ rfl
          have tb : t ≠ b := fun z => by
            obtain ⟨u, e, e2, _⟩ := st.wr.ob wb
            rw [z, e] at h3; cases h3; exact e2 _ rfl
          exact ⟨t, by rw [ho p n1.1 n1.2]; exact h1, by rw [ho q n2.1 n2.2]; exact h2, by rw [ho t ta tb]; exact h3, by rw [ho r n3.1 n3.2]; exact h4⟩
        | _ => exact h.elim
      | scr p => cases y with
        | scr ms =>
          refine h.elim (fun ⟨ob, q⟩ => .inl ⟨ob, ?_⟩) .inr
          have pa : p ≠ a := fun z => by
            obtain ⟨u, e, _, e2⟩ := st.wr.ob wa
            rw [z, e] at q; cases q; exact e2 _ _ rfl
          have pb : p ≠ b := fun z => by
            obtain ⟨u, e, _, e2⟩ := st.wr.ob wb
            rw [z, e] at q; cases q; exact e2 _ _ rfl
          rw [ho p pa pb]; exact q
        | _ => exact h.elim
    · rw [hg] at h
      cases h
      exact ⟨ha, hb⟩
abbrev rA : R2 := rI0 fun i j => .int (i + j)
abbrev rMd : R2 := rI (fun _ j => j ≠ 0) fun i j => .int (i.fmod j)
abbrev rDv : R2 := rI CDivN fun i j => .int (i.fdiv j)
abbrev rMl : R2 := rI CMul fun i j => .int (i * j)
abbrev rPw : R2 := rI CPow fun i j => .int (i ^ j.toNat)
abbrev rGe : R2 := rI0 fun i j => .bl (decide (j ≤ i))
def rLenQ (K : PySem.W.Frag) : List V → Hp → VK → Prop := fun xs H Q => ∃ p ys, xs = [.ref p] ∧ (SqL K H p ys ∨ SqT K H p ys) ∧ Q (.int ys.length) H
def rListQ (K : PySem.W.Frag) : List V → Hp → VK → Prop := fun xs H Q => ∃ p ys, xs = [.ref p] ∧ (SqL K H p ys ∨ SqT K H p ys) ∧ ∀ l, H l = none → Q (.ref l) (upd H l (.lst ys))
def d1 (K : PySem.W.Frag) : TE := tOp (rIxL K) (tVar 0) (tC (.int 1))
def t_draw (K : PySem.W.Frag) : TS :=
  tSeq (tAsg (tOp (rIxL K) (tVar 0) (tC (.int 0))) (gName 2))
  (tSeq (tAsg (tOp rA (d1 K) (tC (.int 1))) (gSub (tVar 0) (tC (.int 1)) rSetL))
  (tSeq (tAsg (tOp rMd (d1 K) (tCB (rLenQ K) (tCons (tVar 2) tNil))) (gName 3))
  (tSeq (tAsg (tOp (rIxL K) (tVar 2) (tVar 3)) (gName 4))
  (tSeq (tIfS (tTest (tOp rGe (tVar 4) (tC (.int 1000000000000000000))))
    (tSeq (tAsg (tOp rDv (tVar 4) (tVar 1)) (gSub (tVar 2) (tVar 3) rSetL)) (tRet (tOp rMd (tVar 4) (tVar 1)))) tNext)
  (tSeq (tAsg (tOp rMd (tOp rA (tVar 4) (tOp rMl (tC (.int 104729)) (d1 K))) (tC (.int 4294967291))) (gName 5))
  (tSeq (tAsg (tOp rMd (tOp rPw (tVar 5) (tC (.int 5))) (tC (.int 4294967279))) (gName 5))
  (tRet (tOp rMd (tOp rDv (tOp rMd (tOp rA (tOp rMl (tOp rDv (tVar 5) (tC (.int 64))) (tC (.int 69621))) (tVar 5)) (tC (.int 4294967231))) (tC (.int 8))) (tVar 1)))))))))
theorem fmod_lt {a b : Int} (hb : 0 < b) : 0 ≤ a.fmod b ∧ a.fmod b < b := ⟨Int.fmod_nonneg_of_pos a hb, Int.fmod_lt_of_pos a hb⟩
theorem ixN_of {n : Nat} {i : Int} (h0 : 0 ≤ i) (h1 : i < n) : ixN n i = some i.toNat := by
  unfold ixN
  rw [if_pos h0, if_pos h1]
theorem pure_draw {K : PySem.W.Frag} {N : List Str} (hN : N.length = 6) (vs : List V) (H : Hp) (Q : VK) (E : XK) (h : spT K drawT vs H Q E) : t_draw K { nx := fun _ H' => Q .non H', rt := Q } (L2.start N vs) H := by
  obtain ⟨O, g, w, ds, st, r, q⟩ := h
  unfold drawT at q
  split at q
  rotate_left
  · exact q.elim
  rename_i k limit
  split at q
  rotate_left
  · exact q.elim
  rename_i ns c hw
  split at q
  rotate_left
  · exact q.elim
  rename_i hc
  simp only [Bool.and_eq_true, Bool.not_eq_true', decide_eq_true_eq] at hc
  obtain ⟨⟨hdv, hne⟩, hlen⟩ := hc
  split at q
  rotate_left
  · exact q.elim
  rename_i v ns' hv
  obtain ⟨o, hg, ho⟩ := Paired.getR st.wr.pr hw
  cases o with
  | scr a => exact ho.elim
  | wat a b c => exact ho.elim
  | drw a b =>
    obtain ⟨ha, hb⟩ := ho
    cases r with
    | cons r1 rt =>
      cases rt with
      | cons r2 rt =>
        cases rt
        cases r2
        cases r1 with
        | spc hk =>
          rw [hg] at hk
          cases hk
          have hab : a ≠ b := by
            have := st.wr.nd
            intro z
            have h1 : (GO.adr (.drw a b)).Nodup := by
              have hm := List.mem_of_getElem? hg
              exact nd_one this hm
            simp [GO.adr, z] at h1
          have hst : L2.start N [V.ref (GO.drw a b).main, .int limit] = [some (.ref a), some (.int limit), none, none, none, none] := by
            unfold L2.start
            simp [hN, GO.main, List.replicate]
          rw [hst]
          have hl : (0 : Int) < (ns.length : Int) := by
            cases ns with
            | nil => cases hne
            | cons _ _ => simp
          obtain ⟨m0, m1⟩ := fmod_lt (a := c + 1) hl
          unfold drawV at hv
          generalize hat : (c + 1).fmod (ns.length : Int) = at' at hv m0 m1
          have hat2 : ((at'.toNat : Nat) : Int) = at' := Int.toNat_of_nonneg m0
          cases hce : ns[at'.toNat]? with
          | none => rw [hce] at hv; cases hv
          | some cell =>
          rw [hce] at hv
          dsimp only at hv
          have hcell : L2.atI (ns.map V.int) at' = some (.int cell) := by
            have := atI_nat (xs := ns.map V.int) (j := at'.toNat) (v := .int cell) (by rw [List.getElem?_map, hce]; rfl)
            rw [hat2] at this
            exact this
          have hb2 : ∀ y, upd H a (.lst [.ref b, .int y]) b = some (.lst (ns.map V.int)) := fun y => by rw [upd_ne (Ne.symm hab)]; exact hb
          refine ⟨.ref a, rfl, a, [.ref b, .int c], 0, .ref b, rfl, rfl, SqL.of ha, rfl, ?_⟩
          refine ⟨.ref a, rfl, a, [.ref b, .int c], 1, .int c, rfl, rfl, SqL.of ha, rfl, c, 1, rfl, rfl, .ref a, rfl, a, [.ref b, .int c], 1, 1, rfl, rfl, ha, rfl, ?_⟩
          show tSeq _ _ _ _ (upd H a (.lst [.ref b, .int (c + 1)]))
          refine ⟨.ref a, rfl, a, [.ref b, .int (c + 1)], 1, .int (c + 1), rfl, rfl, SqL.of upd_same, rfl, .ref b, rfl, b, ns.map V.int, rfl, .inl (SqL.of (hb2 _)), c + 1, _, rfl, rfl, ?_, ?_⟩
          · rw [List.length_map]; omega
          show tSeq _ _ _ [some (.ref a), some (.int limit), some (.ref b), some (.int ((c + 1).fmod ((ns.map V.int).length : Int))), none, none] _
          rw [List.length_map, hat]
          refine ⟨.ref b, rfl, .int at', rfl, b, ns.map V.int, at', .int cell, rfl, rfl, SqL.of (hb2 _), hcell, ?_⟩
          refine ⟨.int cell, rfl, cell, 1000000000000000000, rfl, rfl, _, rfl, ?_⟩
          by_cases hbig : (1000000000000000000 : Int) ≤ cell
          · rw [if_pos hbig] at hv
            cases hv
            rw [decide_eq_true hbig]
            refine iteT ?_
            refine ⟨.int cell, rfl, .int limit, rfl, cell, limit, rfl, rfl, divOk_c hdv, .ref b, rfl, .int at', rfl, b, ns.map V.int, at', at'.toNat, rfl, rfl, hb2 _, by rw [List.length_map]; exact ixN_of m0 (by omega), ?_⟩
            refine ⟨.int cell, rfl, .int limit, rfl, cell, limit, rfl, rfl, ?_, ?_⟩
            · have := divOk_c (i := cell) hdv
              exact this.1
            · have e : (ns.map V.int).set at'.toNat (.int (cell.fdiv limit)) = (ns.set at'.toNat (cell.fdiv limit)).map V.int := by rw [List.map_set]
              obtain ⟨ee, ss⟩ := st.draw (ns' := ns.set at'.toNat (cell.fdiv limit)) (c' := c + 1) (H' := upd (upd H a (.lst [.ref b, .int (c + 1)])) b (.lst ((ns.map V.int).set at'.toNat (.int (cell.fdiv limit))))) hg hw (by rw [upd_ne hab]; exact upd_same) (by rw [e]; exact upd_same) fun x h1 h2 => by rw [upd_ne h2, upd_ne h1]
              exact q _ _ _ ee ss _ (.int _)
          · rw [if_neg hbig] at hv
            cases hv
            rw [decide_eq_false hbig]
            refine iteF ?_
            show tSeq _ _ _ _ _
            refine ⟨.int cell, rfl, .ref a, rfl, a, [.ref b, .int (c + 1)], 1, .int (c + 1), rfl, rfl, SqL.of upd_same, rfl, 104729, c + 1, rfl, rfl, .inl ⟨by decide, by decide⟩, cell, 104729 * (c + 1), rfl, rfl, cell + 104729 * (c + 1), 4294967291, rfl, rfl, (by show (4294967291 : Int) ≠ 0; decide), ?_⟩
            obtain ⟨x0, x1⟩ := fmod_lt (a := cell + 104729 * (c + 1)) (b := 4294967291) (by decide)
            refine ⟨.int _, rfl, (cell + 104729 * (c + 1)).fmod 4294967291, 5, rfl, rfl, ⟨by decide, by decide, ?_⟩, _, 4294967279, rfl, rfl, (by show (4294967279 : Int) ≠ 0; decide), ?_⟩
            · generalize (cell + 104729 * (c + 1)).fmod 4294967291 = z at x0 x1
              have : z.natAbs < 4294967291 := by omega
              exact Nat.lt_trans this (by decide)
            refine ⟨.int _, rfl, _, 64, rfl, rfl, ⟨by decide, by decide⟩, _, 69621, rfl, rfl, .inr ⟨by decide, by decide⟩, .int _, rfl, _, _, rfl, rfl, _, 4294967231, rfl, rfl, (by show (4294967231 : Int) ≠ 0; decide), _, 8, rfl, rfl, ⟨by decide, by decide⟩, .int limit, rfl, _, limit, rfl, rfl, (divOk_c (i := 0) hdv).1, ?_⟩
            obtain ⟨ee, ss⟩ := st.draw (ns' := ns) (c' := c + 1) (H' := upd H a (.lst [.ref b, .int (c + 1)])) hg hw upd_same (hb2 _) fun x h1 h2 => by rw [upd_ne h1]
            exact q _ _ _ ee ss _ (.int _)
end TM

namespace TM
open PySem PySem.Spec PyProof.Rows L2
variable [CNm]
def t_start (K : PySem.W.Frag) : TS :=
  tRet (tLst (tCons (tIf (tTest (tOp (rNeD K) (tVar 0) (tLst tNil))) (tCB (rListQ K) (tCons (tVar 0) tNil)) (tLst (tCons (tC (.int 0)) tNil))) (tCons (tC (.int 0)) tNil)))
theorem St3.fresh2 {K : PySem.W.Frag} {H H' : Hp} {O : Os} {g : Gh} {w : Wd} {a b : Addr} {ns : List Int} {c : Int} (st : St3 K H O g w) (na : H a = none) (nb : H b = none) (hab : a ≠ b) (ha : H' a = some (.lst [.ref b, .int c])) (hb : H' b = some (.lst (ns.map V.int))) (ho : ∀ x o, H x = some o → H' x = some o) :
    Evo H O g H' (fun x => O x ∨ x = a ∨ x = b) (g ++ [.drw a b]) ∧ St3 K H' (fun x => O x ∨ x = a ∨ x = b) (g ++ [.drw a b]) (w ++ [.drw ns c]) := by
  have wsp : ∀ x, WA (g ++ [.drw a b]) x → WA g x ∨ x = a ∨ x = b := fun x ⟨o, ho, hx⟩ => by
    rcases List.mem_append.mp ho with h | h
    · exact .inl ⟨o, h, hx⟩
    · simp only [List.mem_singleton] at h
      subst h
      simp only [GO.adr, List.mem_cons, List.not_mem_nil, or_false] at hx
      exact .inr hx
  have nO : ∀ x, H x = none → ¬ O x := fun x h z => st.wf.oal x z h
  have nW : ∀ x, H x = none → ¬ WA g x := fun x h z => nO x h (st.wf.wao x z)
  have still : ∀ x, H x ≠ none → H' x ≠ none := fun x h => by
    cases e : H x with
    | none => exact absurd e h
    | some o => rw [ho x o e]; simp
  refine ⟨⟨fun x o h _ => ho x o h, still, fun _ z => .inl z, fun x z => ?_, List.prefix_append _ _, fun x z => ?_⟩, ⟨fun x z => ?_, fun x z => ?_, fun x z vs => ?_⟩, ⟨?_, ?_⟩⟩
  · rcases z with z | z | z
    · exact .inl z
    · exact .inr (by rw [z]; exact na)
    · exact .inr (by rw [z]; exact nb)
  · rcases wsp x z with z | z | z
    · exact .inl z
    · exact .inr (by rw [z]; exact na)
    · exact .inr (by rw [z]; exact nb)
  · rcases wsp x z with z | z
    · exact .inl (st.wf.wao x z)
    · exact .inr z
  · rcases z with z | z | z
    · exact still x (st.wf.oal x z)
    · rw [z, ha]; simp
    · rw [z, hb]; simp
  · rcases z with z | z | z
    · cases e : H x with
      | none => exact absurd z (nO x e)
      | some o =>
        rw [ho x o e]
        have := st.wf.ot x z vs
        rw [e] at this
        exact this
    · rw [z, ha]; intro e; cases e
    · rw [z, hb]; intro e; cases e
  · have key : ∀ {l : Gh} {m : Wd}, Paired (W1 K H) l m → Paired (W1 K H') (l ++ [.drw a b]) (m ++ [.drw ns c]) := by
      intro l m p
      induction p with
      | nil => exact .cons ⟨ha, hb⟩ .nil
      | cons r t ih =>
        refine .cons ?_ ih
        rename_i o y _ _
        exact r.keep ho
    exact key st.wr.pr
  · rw [List.flatMap_append, List.nodup_append]
    refine ⟨st.wr.nd, by simp [GO.adr, hab], fun x hx y hy e => ?_⟩
    subst e
    have wx : WA g x := by
      obtain ⟨o, h1, h2⟩ := List.mem_flatMap.mp hx
      exact ⟨o, h1, h2⟩
    simp only [List.flatMap_cons, List.flatMap_nil, GO.adr, List.append_nil, List.mem_cons, List.not_mem_nil, or_false] at hy
    rcases hy with z | z
    · exact nW x (by rw [z]; exact na) wx
    · exact nW x (by rw [z]; exact nb) wx
theorem pure_start {K : PySem.W.Frag} {N : List Str} (hN : N.length = 1) (vs : List V) (H : Hp) (Q : VK) (E : XK) (h : spT K startT vs H Q E) : t_start K { nx := fun _ H' => Q .non H', rt := Q } (L2.start N vs) H := by
  obtain ⟨O, g, w, ds, st, r, q⟩ := h
  unfold startT at q
  split at q
  rotate_left
  · exact q.elim
  rename_i k
  split at q
  rotate_left
  · exact q.elim
  rename_i ns hw
  split at q
  rotate_left
  · exact q.elim
  rename_i hc
  obtain ⟨o, hg, ho⟩ := Paired.getR st.wr.pr hw
  cases o with
  | drw a b => exact ho.elim
  | wat a b c => exact ho.elim
  | scr a =>
    cases r with
    | cons r1 rt =>
      cases rt
      cases r1 with
      | spc hk =>
        rw [hg] at hk
        cases hk
        have hst : L2.start N [V.ref (GO.scr a).main] = [some (.ref a)] := by
          unfold L2.start
          simp [hN, GO.main]
        rw [hst]
        have sq : ∀ H' : Hp, (∀ o, H a = some o → H' a = some o) → SqL K H' a (ns.map V.int) := fun H' hh => by
          rcases ho with ⟨o, ho⟩ | ho
          · exact .inl (.inr ⟨o, hh _ ho⟩)
          · rcases ho with (ho | ⟨_, ho⟩) | ho
            · cases ho
            · cases ho
            · exact .inr ho
        refine ⟨.ref a, rfl, Nat.zero_le _, fun p hp => ⟨_, _, .lst (sq _ fun o h => ?_) (dpAll_ints ns), .lst (SqL.of upd_same) .nil, shaped_ints ns, rfl, _, rfl, ?_⟩⟩
        · rw [upd_ne (by rintro rfl; rw [hp] at h; cases h)]; exact h
        have fin : ∀ (H1 : Hp) (b : Addr) (ms : List Int), H1 p = some (.lst []) → H1 b = none → b ≠ p → H b = none → (∀ x o, H x = some o → H1 x = some o) → ms = (if ns.isEmpty then [0] else ns) →
            (2 ≤ sizeLine ∧ ∀ c, upd H1 b (.lst (ms.map V.int)) c = none → Q (.ref c) (upd (upd H1 b (.lst (ms.map V.int))) c (.lst [.ref b, .int 0]))) := fun H1 b ms hp1 hb hbp hb0 ho1 e => by
          refine ⟨by decide, fun c hcn => ?_⟩
          have hcb : c ≠ b := by rintro rfl; rw [upd_same] at hcn; cases hcn
          have hc0 : H c = none := by
            cases h0 : H c with
            | none => rfl
            | some o => rw [upd_ne hcb, ho1 _ _ h0] at hcn; cases hcn
          obtain ⟨ee, ss⟩ := st.fresh2 (a := c) (b := b) (ns := ms) (c := 0) (H' := upd (upd H1 b (.lst (ms.map V.int))) c (.lst [.ref b, .int 0])) hc0 hb0 hcb upd_same (by rw [upd_ne (Ne.symm hcb)]; exact upd_same) fun x o hx => by
            rw [upd_ne (by rintro rfl; rw [hc0] at hx; cases hx), upd_ne (by rintro rfl; rw [hb0] at hx; cases hx)]
            exact ho1 _ _ hx
          subst e
          refine q _ _ _ ee ss _ ?_
          have hlen : w.length = g.length := st.wr.pr.length.symm
          show Rep _ _ _ (.ref c) (spc w.length)
          refine Rep.spc (o := .drw c b) ?_
          rw [hlen, List.getElem?_append_right (Nat.le_refl _), Nat.sub_self]
          rfl
        have old : ∀ b, upd H p (.lst []) b = none → b ≠ p ∧ H b = none := fun b hb => by
          have hbp : b ≠ p := by rintro rfl; rw [upd_same] at hb; cases hb
          exact ⟨hbp, by rw [upd_ne hbp] at hb; exact hb⟩
        have oo : ∀ x o, H x = some o → upd H p (.lst []) x = some o := fun x o hx => by
          rw [upd_ne (by rintro rfl; rw [hp] at hx; cases hx)]; exact hx
        cases ns with
        | nil =>
          refine iteF ?_
          exact ⟨by decide, fun b hb => fin _ b [0] upd_same hb (old b hb).1 (old b hb).2 oo rfl⟩
        | cons n ns =>
          refine iteT ?_
          refine ⟨.ref a, rfl, a, _, rfl, .inl (sq _ fun o h => oo _ _ h), fun b hb => ?_⟩
          exact fin _ b (n :: ns) upd_same hb (old b hb).1 (old b hb).2 oo rfl
theorem fun_of {K : PySem.W.Frag} {x y : Str} {st : Stmt} {f : Addr} {fd : FuncData} (F : FunD K x y (defArgs st) (defBody st) (defScope st) [] [] f fd) : Fun K x y st f fd := by
  obtain ⟨oc, od, dV, kV, doc, pm, an, cdv, ct, osl, rfl, lk, hcd, hD, hK⟩ := F.ex
  rcases hD with ⟨_, rfl⟩ | ⟨e, _⟩
  · exact ⟨⟨oc, od, kV, doc, pm, an, cdv, ct, osl, rfl, lk, hcd⟩, F.kp⟩
  · exact absurd rfl e
section
variable {P : Program} {w : World} {K : PySem.W.Frag} {mg : Str → Option Value} {base : Heap} {x : Str} {st : Stmt} {f : Addr} {fd : FuncData}
/-- a promise about exceptions made weaker -/
theorem fn_up {CX CX2 : CXT} {k : Nat} {ps : List Str} {sp : Sp} (F : FnOk P w K mg base CX k f fd ps sp) (h : ∀ outer H s E e s', CX outer H s E e s' → CX2 outer H s E e s') : FnOk P w K mg base CX2 k f fd ps sp :=
  ⟨F.len, fun A outer s H args us vs Q E hr he hb hv hs => codeAny_mono (F.run A outer s H args us vs Q E hr he hb hv hs) fun r s' hq => by
    cases r with
    | ok fl => cases fl <;> exact hq
    | error e => exact h _ _ _ _ _ _ hq⟩
theorem draw_ok {N ps : List Str} {n : Nat} (F : Fun K x x st f fd) (S : FnScope N ps (defScope st)) (h6 : N.length = 6) (hp : ps.length = 2) (hb : ∀ X : Cx, X.calm = true → X.K = K → X.mg = mg → X.N = N → X.env.scope = defScope st → X.A.units + 64 < cLine → PSs X (defBody st) (t_draw X.K)) : FnOk P w K mg base (L2.CX P w) (n + 1) f fd ps (spT K drawT) := by
  refine fn_up (CX := CX0) ?_ fun _ _ _ _ _ _ z => z.elim
  refine F.ok S (fun vs H Q E h => ?_) fun cdv A outer s H vs Q E hr h => ⟨t_draw K, ?_, pure_draw h6 vs H Q E h⟩
  · obtain ⟨O, g, w, ds, st, r, q⟩ := h
    unfold drawT at q
    split at q
    rotate_left
    · exact q.elim
    rw [r.length, hp]; rfl
  · exact hb _ rfl rfl rfl rfl rfl hr.units
theorem start_ok {N ps : List Str} {n : Nat} (F : Fun K x x st f fd) (S : FnScope N ps (defScope st)) (h6 : N.length = 1) (hp : ps.length = 1) (hb : ∀ X : Cx, X.calm = true → X.K = K → X.mg = mg → X.N = N → X.env.scope = defScope st → X.A.units + 64 < cLine → PSs X (defBody st) (t_start X.K)) : FnOk P w K mg base (L2.CX P w) (n + 1) f fd ps (spT K startT) := by
  refine fn_up (CX := CX0) ?_ fun _ _ _ _ _ _ z => z.elim
  refine F.ok S (fun vs H Q E h => ?_) fun cdv A outer s H vs Q E hr h => ⟨t_start K, ?_, pure_start h6 vs H Q E h⟩
  · obtain ⟨O, g, w, ds, st, r, q⟩ := h
    unfold startT at q
    split at q
    rotate_left
    · exact q.elim
    rw [r.length, hp]; rfl
  · exact hb _ rfl rfl rfl rfl rfl hr.units
end
/-- the law's promise from the interpreter's answer -/
theorem law_sp {K : PySem.W.Frag} {T : List D → Wd → R RV} (hT : ∀ ns : List Int, ns.length ≤ 63 → ∃ w', T [spc 0] [.scr ns] = .ok (.val (.bool true)) w') (H : Hp) (a : Addr) (ns : List Int) (hl : ns.length ≤ 63) (hS : (∃ o, H a = some (.frz o (.lst (ns.map V.int)))) ∨ SqL K (fun _ => none) a (ns.map V.int)) (Q : VK) (E : XK) (hQ : ∀ H', Q (.bl true) H') : spT K T [.ref a] H Q E := by
  obtain ⟨w', h⟩ := hT ns hl
  refine ⟨fun _ => False, [.scr a], [.scr ns], [spc 0], ⟨⟨fun x ⟨o, ho, hx⟩ => ?_, fun x z => z.elim, fun x z => z.elim⟩, ⟨.cons hS .nil, by simp [GO.adr]⟩⟩, .cons (.spc (k := 0) (o := .scr a) rfl) .nil, ?_⟩
  · simp only [List.mem_singleton] at ho
    subst ho
    cases hx
  · rw [h]
    intro H' O' g' _ _ v rv
    cases rv
    exact hQ H'
theorem law_sp2 {K : PySem.W.Frag} {T : List D → Wd → R RV} (hT : ∀ ns : List Int, ns.length ≤ 63 → ∃ w', T [spc 0] [.scr ns] = .ok (.val (.bool true)) w') (H : Hp) (a : Addr) (ns : List Int) (hl : ns.length ≤ 63) (hO : Only H) (hS : SqL K H a (ns.map V.int)) : spT K T [.ref a] H (fun v _ => v = .bl true) (fun _ _ _ => False) := by
  refine law_sp hT H a ns hl ?_ _ _ fun _ => rfl
  rcases hS with (h | ⟨o, h⟩) | h
  · rcases hO a with h0 | ⟨o, xs, h0⟩
    · rw [h0] at h; cases h
    · rw [h0] at h; cases h
  · exact .inl ⟨o, h⟩
  · exact .inr (.inr h)
end TM

namespace TM
open PySem PySem.Spec PyProof.Rows L2
variable [CNm]
/-! ### from the top's facts to the program's table -/
def faC : Str × D → List He.Fa
  | (x, .int i) => [.int x i]
  | (x, .str z) => [.str x z]
  | _ => []
def csOk : Str × D → Bool
  | (_, .int _) => true
  | (_, .str _) => true
  | _ => false
def Pg.fa0 (pg : Pg) : List He.Fa := pg.fs.map (fun p => .glo p.1) ++ (((bltTab.map (·.1)).filter fun x => (pg.fs.lookup x).isNone) ++ tyNames).map .free ++ pg.cs.flatMap faC
def Pg.faX (pg : Pg) : List He.Fa := pg.xs.map (fun p => .glo p.1) ++ (if pg.xs.isEmpty then [] else [.free "ValueError"])
/-- a method's own name -/
def mNm (z : Str) : Str := (([("Watcher.__init__", "__init__"), ("Watcher.push", "push"), ("Watcher.result", "result"), ("Watcher.change_rule", "change_rule"), ("Watcher.last_values", "last_values"), ("Watcher.undo", "undo"), ("Watcher.__len__", "__len__")] : List (Str × Str)).lookup z).getD "?"
def faM : Str × FD → List He.Fa
  | (z, _) => if z = "Watcher.__init__" then [] else [.meth "Watcher" (mNm z)]
def Pg.faW (pg : Pg) : List He.Fa := if pg.ws.isEmpty then [] else [.glo "Watcher", .cls "Watcher", .noat "Watcher" "size", .noat "Watcher" "rule", .noat "Watcher" "line", .mkr "Watcher"] ++ pg.ws.flatMap faM
def Pg.fa (pg : Pg) : List He.Fa := pg.fa0 ++ pg.faX ++ pg.faW
/-- the classes of exceptions, looked at -/
def xc1 (K : PySem.W.Frag) (xs : List (Str × List Str)) (p : Str × List Str) : Bool :=
  PySem.W.excIn K (He.ga K p.1) He.veBase "ValueError.__new__" && PySem.W.keepIn K (.ref (He.ga K p.1)) &&
  decide (PySem.W.subIn K (.ref (He.ga K p.1)) (.type "BaseException") = some true) && decide (PySem.W.typeIn K (.ref (He.ga K p.1)) = some (.type "type")) &&
  (xs.all fun q => decide (PySem.W.exmOne K (.ref (He.ga K p.1)) (.ref (He.ga K q.1)) = some (p.2.contains q.1)) && decide (PySem.W.kitOne K (.ref (He.ga K p.1)) (.ref (He.ga K q.1)) = some (p.2.contains q.1))) &&
  decide (PySem.W.kitOne K (.ref (He.ga K p.1)) (.type "ValueError") = some (p.2.contains "ValueError")) &&
  He.eqO (PySem.W.findIn K (.ref (He.ga K p.1)) "__getattribute__") (some (some (.builtin "BaseException.__getattribute__"))) &&
  He.eqO (PySem.W.findIn K (.ref (He.ga K p.1)) "__getattr__") (some none) && PySem.W.hasDictIn K (He.ga K p.1) &&
  He.eqO (PySem.W.findIn K (.ref (He.ga K p.1)) "__class__") (some (some (.builtin "object.__class__"))) &&
  He.eqO (PySem.W.specialIn K (.builtin "object.__class__") "__get__") (some (some (.builtin "getset_descriptor.__get__"))) &&
  decide (PySem.W.takesIn K (.builtin "object.__class__") = some true) && decide (PySem.W.mroIn K (He.ga K p.1) (.type "object") = some true)
def xcB (xs : List (Str × List Str)) (K : PySem.W.Frag) : Bool := xs.all (xc1 K xs)
def hookX (n : Nat) (fa : List He.Fa) (fn : List He.DefD) (b : PySem.W.Frag → Bool) : PySem.W.Hook where
  α := He.AlD × Bool
  obs := fun s => (He.obsDG n fa fn s.heap.get?, b (He.frG s.heap.get? (He.asD s.heap.get? n)))
  val := fun _ => (He.valD fn, true)
  says := fun _ h => ∃ K : PySem.W.Frag, K.In h ∧ He.SaysD fa fn K ∧ b K = true
  of := fun w s e => ⟨He.frG s.heap.get? (He.asD s.heap.get? n), He.frG_in, (Prod.mk.inj e).1, (Prod.mk.inj e).2⟩
  keeps := fun _ _ _ ⟨K, hK, c⟩ k => ⟨K, PySem.W.Frag.In.keeps hK k, c⟩
def obsX (n : Nat) (fa : List He.Fa) (fn : List He.DefD) (b : PySem.W.Frag → Bool) (g : Addr → Option Obj) : He.AlD × Bool := (He.obsDG n fa fn g, b (He.frG g (He.asD g n)))
theorem obsX_eq {n : Nat} {fa : List He.Fa} {fn : List He.DefD} {b : PySem.W.Frag → Bool} {g : Addr → Option Obj} {s : Shared} (h : ∀ a, g a = s.heap.get? a) : obsX n fa fn b g = (hookX n fa fn b).obs s := by
  have e : g = s.heap.get? := funext h
  subst e
  rfl
/-- exceptions that leave, in whatever world -/
def CX1 (P : Program) : CXT := fun outer H s E u s' => ∃ w, L2.CX P w outer H s E u s'
theorem cx1_no {P : Program} (H : Hp) (s : Shared) (e : Value) (s' : Shared) (h : CX1 P [] H s (fun _ _ _ => False) e s') : False := by
  obtain ⟨w, _, _, _, _, _, _, _, _, _, _, _, _, z⟩ := h
  exact z
theorem xc_ok [CNm] {K : PySem.W.Frag} {mg : Str → Option Value} {xs : List (Str × List Str)} (nm : (CNm.nm : Str → Addr) = He.ga K) (hg : ∀ p ∈ xs, mg p.1 = some (.ref (He.ga K p.1))) (h : xcB xs K = true) (c : Str) (l : List Str) (hl : xs.lookup c = some l) : XcOk K mg (fun x => xs.lookup x) c l := by
  have hm := lookup_mem hl
  have h1 := List.all_eq_true.mp h _ hm
  have e : ∀ x, CNm.nm x = He.ga K x := fun x => by rw [nm]
  unfold xc1 at h1
  simp only [Bool.and_eq_true, decide_eq_true_eq, List.all_eq_true] at h1
  obtain ⟨⟨⟨⟨⟨⟨⟨⟨⟨⟨⟨⟨a1, a2⟩, a3⟩, a4⟩, a5⟩, a6⟩, a7⟩, a8⟩, a9⟩, a10⟩, a11⟩, a12⟩, a13⟩ := h1
  have al : ∀ t, (xs.lookup t).isSome = true → ∃ q ∈ xs, q.1 = t := fun t ht => by
    obtain ⟨l2, h2⟩ := Option.isSome_iff_exists.mp ht
    exact ⟨_, lookup_mem h2, rfl⟩
  refine ⟨by rw [e]; exact hg _ hm, by rw [e]; exact a1, by rw [e]; exact a2, by rw [e]; exact a3, by rw [e]; exact a4, fun t ht => ?_, fun t ht => ?_, by rw [e]; exact a6, ?_⟩
  · obtain ⟨q, hq, rfl⟩ := al t ht
    rw [e, e]; exact (a5 q hq).1
  · obtain ⟨q, hq, rfl⟩ := al t ht
    rw [e, e]; exact (a5 q hq).2
  · rw [e]
    exact ⟨He.eqO_ok a7, He.eqO_ok a8, a3, a9, He.eqO_ok a10, He.eqO_ok a11, a12, a13⟩
def dfD (p : Str × FD) : He.DefD := ⟨(p.1, none), p.1, p.1, defArgs p.2.st, defBody p.2.st, defScope p.2.st, [], []⟩
def dfW (p : Str × FD) : He.DefD := ⟨("Watcher", some (mNm p.1)), mNm p.1, p.1, defArgs p.2.st, defBody p.2.st, defScope p.2.st, [], []⟩
def Pg.fn (pg : Pg) : List He.DefD := pg.fs.map dfD ++ pg.ws.map dfW
def bndW (m z : Str) (fd : FD) : Prop := ∀ (kV doc pm : Value) (an : Option Addr) (cdv ct : Value) (us : List Value), us.length = (fd.N.take fd.np).length → bindArgs (PySem.W.fnOf m z (defArgs fd.st) (defBody fd.st) (defScope fd.st) .none kV doc pm an cdv ct) ⟨us, []⟩ = pure ((fd.N.take fd.np).zip us)
/-- a watcher's method of a row -/
def hasF (pg : Pg) (l : List Str) : Prop := (l.all fun x => (pg.fs.lookup x).isSome) = true
def wOne (pg : Pg) (z : Str) (fd : FD) : Prop := match fd.kd with
  | .wini => z = "Watcher.__init__" ∧ fd.N.length = 3 ∧ (fd.N.take fd.np).length = 3 ∧ hasF pg ["check_size", "check_rule"] ∧ ∀ [CNm], TmIni fd
  | .wpsh => z = "Watcher.push" ∧ fd.N.length = 2 ∧ (fd.N.take fd.np).length = 2 ∧ hasF pg ["check_value"] ∧ (pg.ws.lookup ("Watcher.result" : Str)).isSome = true ∧ ∀ [CNm], TmPsh fd
  | .wres => z = "Watcher.result" ∧ fd.N.length = 1 ∧ (fd.N.take fd.np).length = 1 ∧ hasF pg ["result_of"] ∧ ∀ [CNm], TmRes fd
  | .wchg => z = "Watcher.change_rule" ∧ fd.N.length = 2 ∧ (fd.N.take fd.np).length = 2 ∧ hasF pg ["check_rule"] ∧ (pg.ws.lookup ("Watcher.result" : Str)).isSome = true ∧ ∀ [CNm], TmChg fd
  | .wlst => z = "Watcher.last_values" ∧ fd.N.length = 1 ∧ (fd.N.take fd.np).length = 1 ∧ ∀ [CNm], TmLst fd
  | .wund => z = "Watcher.undo" ∧ fd.N.length = 1 ∧ (fd.N.take fd.np).length = 1 ∧ (pg.xs.lookup ("NotFound" : Str)).isSome = true ∧ ∀ [CNm], TmUnd fd
  | .wlen => z = "Watcher.__len__" ∧ fd.N.length = 1 ∧ (fd.N.take fd.np).length = 1 ∧ ∀ [CNm], TmLen fd
  | _ => False
structure WOne (pg : Pg) (z : Str) (fd : FD) : Prop where
  nf : pg.fs.lookup z = none
  b : bndW (mNm z) z fd
  s : FnScope fd.N (fd.N.take fd.np) (defScope fd.st)
  k : wOne pg z fd
def WsAll (pg : Pg) : List (Str × FD) → Prop
  | [] => True
  | (z, fd) :: r => WOne pg z fd ∧ WsAll pg r
theorem WsAll.mem {pg : Pg} : ∀ {l : List (Str × FD)} {x : Str} {fd : FD}, WsAll pg l → (x, fd) ∈ l → WOne pg x fd
  | (y, fe) :: r, x, fd, h, hm => by
    rcases List.mem_cons.mp hm with e | hm
    · cases e; exact h.1
    · exact WsAll.mem h.2 hm
/-- the watchers of a row -/
structure WRow (pg : Pg) : Prop where
  all : WsAll pg pg.ws
  ini : ∃ fd, pg.ws.lookup ("Watcher.__init__" : Str) = some fd ∧ fd.kd = .wini
def bndP (x : Str) (fd : FD) : Prop := ∀ (kV doc pm : Value) (an : Option Addr) (cdv ct : Value) (us : List Value), us.length = (fd.N.take fd.np).length → bindArgs (PySem.W.fnOf x x (defArgs fd.st) (defBody fd.st) (defScope fd.st) .none kV doc pm an cdv ct) ⟨us, []⟩ = pure ((fd.N.take fd.np).zip us)
def termP (mgP : (Str → Option Value) → Prop) (fd : FD) (t : PySem.W.Frag → TS) : Prop := ∀ X : Cx, X.calm = true → mgP X.mg → X.N = fd.N → X.env.scope = defScope fd.st → X.A.units + 64 < cLine → PSs X (defBody fd.st) (t X.K)
def fdOk (mgP : (Str → Option Value) → Prop) (fd : FD) : Prop := match fd.kd with
  | .body => (fd.N.take fd.np).length = fd.np ∧ (defBody fd.st).all (chkS exF fd.N (defScope fd.st)) = true
  | .start => fd.N.length = 1 ∧ (fd.N.take fd.np).length = 1 ∧ termP mgP fd t_start
  | .draw => fd.N.length = 6 ∧ (fd.N.take fd.np).length = 2 ∧ termP mgP fd t_draw
  | _ => True
structure FdOk (mgP : (Str → Option Value) → Prop) (x : Str) (fd : FD) : Prop where
  b : bndP x fd
  s : FnScope fd.N (fd.N.take fd.np) (defScope fd.st)
  k : fdOk mgP fd
def FdsOk (mgP : (Str → Option Value) → Prop) : List (Str × FD) → Prop
  | [] => True
  | (x, fd) :: r => FdOk mgP x fd ∧ FdsOk mgP r
theorem FdsOk.mem {mgP : (Str → Option Value) → Prop} : ∀ {l : List (Str × FD)} {x : Str} {fd : FD}, FdsOk mgP l → (x, fd) ∈ l → FdOk mgP x fd
  | (y, fe) :: r, x, fd, h, hm => by
    rcases List.mem_cons.mp hm with e | hm
    · cases e; exact h.1
    · exact FdsOk.mem h.2 hm
def mgLL (mg : Str → Option Value) : Prop := mg "len" = none ∧ mg "list" = none
theorem said {fa : List He.Fa} {fn : List He.DefD} {K : PySem.W.Frag} (c : He.SaysD fa fn K) {f : He.Fa} (h : f ∈ fa) : f.ok K = true := by
  obtain ⟨i, hi, e⟩ := List.mem_iff_getElem.mp h
  exact c.fact i (f := f) (by rw [List.getElem?_eq_getElem hi, e])
theorem said_def {fa : List He.Fa} {fn : List He.DefD} {K : PySem.W.Frag} (c : He.SaysD fa fn K) {d : He.DefD} (h : d ∈ fn) : ∃ fd, FunD K d.name d.qual d.params d.body d.scope (d.dvs K) (d.kws K) (He.fAd K d.at_) fd := by
  obtain ⟨i, hi, e⟩ := List.mem_iff_getElem.mp h
  exact c.def_ i (d := d) (by rw [List.getElem?_eq_getElem hi, e])
theorem pg_ok {P : Program} {w : World} {K : PySem.W.Frag} {mg : Str → Option Value} {h : Heap} {pg : Pg} (nm : (CNm.nm : Str → Addr) = He.ga K) (hxb : xcB pg.xs K = true) (hwr : pg.ws = [] ∨ WRow pg) (X : K.In h) (G : h.Ns mainGlobals mg) (c : He.SaysD pg.fa pg.fn K) (hll : (pg.fs.lookup ("len" : Str)).isNone = true ∧ (pg.fs.lookup ("list" : Str)).isNone = true) (hcs : pg.cs.all csOk = true) (hf : FdsOk mgLL pg.fs) : PgOk P w K mg pg := by
  have fr : ∀ x b, pg.fs.lookup x = none → bltTab.lookup x = some b → mg x = none := fun x b h1 h2 => by
    refine He.free_ok X G (said c ?_)
    refine List.mem_append_left _ (List.mem_append_left _ (List.mem_append_left _ (List.mem_append_right _ (List.mem_map_of_mem (List.mem_append_left _ (List.mem_filter.mpr ⟨List.mem_map.mpr ⟨_, lookup_mem h2, rfl⟩, ?_⟩))))))
    rw [h1]; rfl
  have ml : mgLL mg := ⟨fr "len" .len (Option.isNone_iff_eq_none.mp hll.1) (by decide +kernel), fr "list" .list (Option.isNone_iff_eq_none.mp hll.2) (by decide +kernel)⟩
  have xcl := xc_ok nm (fun p hp => He.glo_ok X G (said c (f := .glo p.1) (List.mem_append_left _ (List.mem_append_right _ (List.mem_append_left _ (List.mem_map.mpr ⟨p, hp, rfl⟩)))))) hxb
  refine ⟨fun x fd hx => ?_, fr, fun t ht => ?_, xcl, fun ⟨c0, hc0⟩ => ?_, fun ⟨z0, hz0⟩ => ?_, fun x d hd => ?_⟩
  · have hm := lookup_mem hx
    obtain ⟨fdat, FD⟩ := said_def c (d := dfD (x, fd)) (List.mem_append_left _ (List.mem_map_of_mem hm))
    have g := He.glo_ok X G (said c (f := .glo x) (List.mem_append_left _ (List.mem_append_left _ (List.mem_append_left _ (List.mem_append_left _ (List.mem_map.mpr ⟨(x, fd), hm, rfl⟩))))))
    have ok := hf.mem hm
    have F : FunD K x x (defArgs fd.st) (defBody fd.st) (defScope fd.st) [] [] (He.fAd K (x, none)) fdat := FD
    refine ⟨⟨_, fdat, fun_of F, g, F.bindsN ok.b, ?_⟩⟩
    have k := ok.k
    unfold fdOk at k
    cases hk : fd.kd with
    | wini => trivial
    | wpsh => trivial
    | wres => trivial
    | wchg => trivial
    | wlst => trivial
    | wund => trivial
    | wlen => trivial
    | body => rw [hk] at k; exact ⟨ok.s, k.1, k.2⟩
    | start =>
      rw [hk] at k
      exact fun base n => start_ok (fun_of F) ok.s k.1 k.2.1 fun X h1 h2 h3 h4 h5 h6 => k.2.2 X h1 (h3 ▸ ml) h4 h5 h6
    | draw =>
      rw [hk] at k
      exact fun base n => draw_ok (fun_of F) ok.s k.1 k.2.1 fun X h1 h2 h3 h4 h5 h6 => k.2.2 X h1 (h3 ▸ ml) h4 h5 h6
  · exact He.free_ok X G (said c (f := .free t) (List.mem_append_left _ (List.mem_append_left _ (List.mem_append_left _ (List.mem_append_right _ (List.mem_map_of_mem (List.mem_append_right _ ht)))))))
  · refine He.free_ok X G (said c (f := .free "ValueError") (List.mem_append_left _ (List.mem_append_right _ (List.mem_append_right _ ?_))))
    have : pg.xs.isEmpty = false := by
      cases hq : pg.xs with
      | nil => rw [hq] at hc0; cases hc0
      | cons _ _ => rfl
    rw [this]
    exact List.mem_cons_self
  · rcases hwr with hn | R
    · rw [hn] at hz0; cases hz0
    have hne : pg.ws.isEmpty = false := by
      cases hq : pg.ws with
      | nil => rw [hq] at hz0; cases hz0
      | cons _ _ => rfl
    have fw0 : ∀ f ∈ ([.glo "Watcher", .cls "Watcher", .noat "Watcher" "size", .noat "Watcher" "rule", .noat "Watcher" "line", .mkr "Watcher"] ++ pg.ws.flatMap faM : List He.Fa), f.ok K = true := fun f hf => said c (List.mem_append_right _ (by unfold Pg.faW; rw [hne]; exact hf))
    have fw : ∀ f ∈ ([.glo "Watcher", .cls "Watcher", .noat "Watcher" "size", .noat "Watcher" "rule", .noat "Watcher" "line", .mkr "Watcher"] : List He.Fa), f.ok K = true := fun f hf => fw0 f (List.mem_append_left _ hf)
    have W : WCls K := ⟨He.cls_ok (fw (.cls "Watcher") (by simp)), He.noat_ok (fw (.noat "Watcher" "size") (by simp)), He.noat_ok (fw (.noat "Watcher" "rule") (by simp)), He.noat_ok (fw (.noat "Watcher" "line") (by simp))⟩
    have sd : ∀ p ∈ pg.ws, ∃ fdat, FunD K (mNm p.1) p.1 (defArgs p.2.st) (defBody p.2.st) (defScope p.2.st) [] [] (He.fAd K ("Watcher", some (mNm p.1))) fdat := fun p hp => said_def c (d := dfW p) (List.mem_append_right _ (List.mem_map_of_mem hp))
    refine ⟨W, He.glo_ok X G (fw (.glo "Watcher") (by simp)), fun z fd hz => (R.all.mem (lookup_mem hz)).nf, ?_, fun m z fd hm hz => ?_⟩
    · obtain ⟨fd, hfd, hkd⟩ := R.ini
      obtain ⟨fi, Fi⟩ := sd ("Watcher.__init__", fd) (lookup_mem hfd)
      have Fi : FunD K "__init__" "Watcher.__init__" (defArgs fd.st) (defBody fd.st) (defScope fd.st) [] [] (He.fAd K ("Watcher", some "__init__")) fi := Fi
      have o := R.all.mem (lookup_mem hfd)
      have ok := o.k
      unfold wOne at ok
      rw [hkd] at ok
      obtain ⟨_, k1, k2, k3, k4⟩ := ok
      refine ⟨fd, _, fi, _, hfd, He.mkr_ok (fw (.mkr "Watcher") (by simp)), Fi.bindsN o.b, fun base n T F => ?_⟩
      rw [hkd]
      exact wini_ok (fun_of Fi) o.s k1 k2 W ml.1 k4 (F _ (List.all_eq_true.mp k3 _ (by simp))) (F _ (List.all_eq_true.mp k3 _ (by simp)))
    · obtain ⟨fm, Fm⟩ := sd (z, fd) (lookup_mem hz)
      have o := R.all.mem (lookup_mem hz)
      have ok := o.k
      have hmm := lookup_mem hm
      simp only [wTab, List.mem_cons, Prod.mk.injEq, List.not_mem_nil, or_false] at hmm
      have nm0 : mNm z = m ∧ z ≠ "Watcher.__init__" := by
        rcases hmm with ⟨rfl, rfl⟩ | ⟨rfl, rfl⟩ | ⟨rfl, rfl⟩ | ⟨rfl, rfl⟩ | ⟨rfl, rfl⟩ | ⟨rfl, rfl⟩ <;> exact ⟨by decide +kernel, by decide +kernel⟩
      obtain ⟨nm1, nm2⟩ := nm0
      have mt : Meth K (He.ga K "Watcher") m (He.fAd K ("Watcher", some m)) := He.meth_ok (fw0 (.meth "Watcher" m) (List.mem_append_right _ (List.mem_flatMap.mpr ⟨_, lookup_mem hz, by
        show _ ∈ (if z = "Watcher.__init__" then [] else [He.Fa.meth "Watcher" (mNm z)])
        rw [if_neg nm2, nm1]
        exact List.mem_cons_self⟩)))
      have Fm : FunD K (mNm z) z (defArgs fd.st) (defBody fd.st) (defScope fd.st) [] [] (He.fAd K ("Watcher", some (mNm z))) fm := Fm
      have bb := Fm.bindsN o.b
      rw [nm1] at Fm
      refine ⟨_, fm, _, mt, bb, fun base n T F M => ?_⟩
      unfold wOne at ok
      cases hk : fd.kd with
      | wini => rw [hk] at ok; exact absurd ok.1 nm2
      | wpsh =>
        rw [hk] at ok
        obtain ⟨rfl, k1, k2, k3, k4, k5⟩ := ok
        have e : mNm "Watcher.push" = "push" := by decide +kernel
        rw [e] at nm1
        subst nm1
        exact wpsh_ok (fun_of Fm) o.s k1 k2 W ml.1 k5 (F _ (List.all_eq_true.mp k3 _ (by simp))) (M "result" "Watcher.result" (by decide +kernel) k4)
      | wres =>
        rw [hk] at ok
        obtain ⟨rfl, k1, k2, k3, k5⟩ := ok
        have e : mNm "Watcher.result" = "result" := by decide +kernel
        rw [e] at nm1
        subst nm1
        exact wres_ok (fun_of Fm) o.s k1 k2 W ml.1 k5 (F _ (List.all_eq_true.mp k3 _ (by simp)))
      | wchg =>
        rw [hk] at ok
        obtain ⟨rfl, k1, k2, k3, k4, k5⟩ := ok
        have e : mNm "Watcher.change_rule" = "change_rule" := by decide +kernel
        rw [e] at nm1
        subst nm1
        exact wchg_ok (fun_of Fm) o.s k1 k2 W ml.1 k5 (F _ (List.all_eq_true.mp k3 _ (by simp))) (M "result" "Watcher.result" (by decide +kernel) k4)
      | wlst =>
        rw [hk] at ok
        obtain ⟨rfl, k1, k2, k5⟩ := ok
        have e : mNm "Watcher.last_values" = "last_values" := by decide +kernel
        rw [e] at nm1
        subst nm1
        exact wlst_ok (fun_of Fm) o.s k1 k2 W ml.1 k5
      | wund =>
        rw [hk] at ok
        obtain ⟨rfl, k1, k2, k3, k5⟩ := ok
        have e : mNm "Watcher.undo" = "undo" := by decide +kernel
        rw [e] at nm1
        subst nm1
        obtain ⟨l, hl⟩ := Option.isSome_iff_exists.mp k3
        exact wund_ok (fun_of Fm) o.s k1 k2 W ml.1 ⟨_, l, xcl _ l hl⟩ k5
      | wlen =>
        rw [hk] at ok
        obtain ⟨rfl, k1, k2, k5⟩ := ok
        have e : mNm "Watcher.__len__" = "__len__" := by decide +kernel
        rw [e] at nm1
        subst nm1
        exact wlen_ok (fun_of Fm) o.s k1 k2 W ml.1 k5
      | body => rw [hk] at ok; exact ok.elim
      | start => rw [hk] at ok; exact ok.elim
      | draw => rw [hk] at ok; exact ok.elim
  · have hm := lookup_mem hd
    have hc := List.all_eq_true.mp hcs _ hm
    have hin : ∀ f ∈ faC (x, d), f.ok K = true := fun f hf => said c (List.mem_append_left _ (List.mem_append_left _ (List.mem_append_right _ (List.mem_flatMap.mpr ⟨_, hm, hf⟩))))
    cases d with
    | int i =>
      obtain ⟨t, ht⟩ := He.int_ok X G (hin (.int x i) (by simp [faC]))
      exact ⟨.int i, _, ht, ⟨t, rfl⟩, fun _ _ _ => .int i⟩
    | str z =>
      obtain ⟨t, ht⟩ := He.str_ok X G (hin (.str x z) (by simp [faC]))
      exact ⟨.str z, _, ht, ⟨t, rfl⟩, fun _ _ _ => .str z⟩
    | _ => cases hc
omit [CNm] in
theorem law_ok {P : Program} {w : World} {K : PySem.W.Frag} {mg : Str → Option Value} {h : Heap} {pg : Pg} {fa : Addr} {N0 : Nat} {fd : FD} {x p : Str} (X : K.In h) (G : h.Ns mainGlobals mg) (hmg : mg x = some (.ref fa)) (c : He.SaysD pg.fa pg.fn K) (hxb : xcB pg.xs K = true) (hwr : pg.ws = [] ∨ WRow pg) (hll : (pg.fs.lookup ("len" : Str)).isNone = true ∧ (pg.fs.lookup ("list" : Str)).isNone = true) (hcs : pg.cs.all csOk = true) (hf : FdsOk mgLL pg.fs)
    (hl : pg.fs.lookup x = some fd) (hp : fd.N.take fd.np = [p]) (hT : ∀ ns : List Int, ns.length ≤ 63 → ∃ w', pg.T N0 x [spc 0] [.scr ns] = .ok (.val (.bool true)) w') :
    ∃ (K : PySem.W.Frag) (fd : FuncData) (sp : Sp), K.In h ∧ (∀ (s : Shared) (u : Value), BindsTo s fd ⟨[u], []⟩ [(p, u)]) ∧
      (∀ (H : Hp) (a : Addr) (ns : List Int), ns.length ≤ 63 → Only H → SqL K H a (ns.map V.int) → sp [.ref a] H (fun v _ => v = .bl true) fun _ _ _ => False) ∧
      ∀ base : Heap, K.In base → base.Ns mainGlobals mg → FnOk P w K mg base (CX1 P) (2 * N0) fa fd [p] sp := by
  letI : CNm := ⟨He.ga K⟩
  have hm := lookup_mem hl
  obtain ⟨fdat, FD⟩ := said_def c (d := dfD (x, fd)) (List.mem_append_left _ (List.mem_map_of_mem hm))
  have F : FunD K x x (defArgs fd.st) (defBody fd.st) (defScope fd.st) [] [] (He.fAd K (x, none)) fdat := FD
  have g := He.glo_ok X G (said c (f := .glo x) (List.mem_append_left _ (List.mem_append_left _ (List.mem_append_left _ (List.mem_append_left _ (List.mem_map.mpr ⟨(x, fd), hm, rfl⟩))))))
  have ok : PgOk P w K mg pg := pg_ok rfl hxb hwr X G c hll hcs hf
  have b := (hf.mem hm).b
  have bA := FunD.bindsA (ps := fd.N.take fd.np) F b
  rw [hp] at bA
  refine ⟨K, fdat, spT K (pg.T N0 x), X, fun s u => bA s [u] rfl, fun H a ns hl2 hO hS => law_sp2 hT H a ns hl2 hO hS, fun base _ _ => ?_⟩
  obtain ⟨f3, fdat3, F3, m3, _, _, fk⟩ := fn_ok (base := base) ok N0 x fd hl
  have e1 : f3 = fa := by
    rw [hmg] at m3
    cases m3; rfl
  subst e1
  have e2 : He.fAd K (x, none) = f3 := by
    have : some (Value.ref (He.fAd K (x, none))) = some (Value.ref f3) := g.symm.trans hmg
    cases this; rfl
  have e3 : fdat3 = fdat := by
    obtain ⟨_, _, _, _, _, _, _, _, _, _, l3, _⟩ := F3.ex
    obtain ⟨_, _, _, _, _, _, _, _, _, _, l1, _⟩ := (fun_of F).ex
    rw [e2, l3] at l1
    cases l1; rfl
  subst e3
  rw [hp] at fk
  exact fn_up fk fun outer H s E u s' z => ⟨w, z⟩
end TM
namespace TM
open PySem PySem.Spec PyProof.Rows L2
variable [CNm]
section
variable {X : Cx} {N : List Str} {sc : Scope}
theorem vN (hN : X.N = N) (hs : X.env.scope = sc) (i : Nat) {x : Str} {pos : Pos} (h1 : N[i]? = some x := by rfl) (h2 : sc.names.lookup x = some .local := by rfl) (hd : (x == ("__debug__" : Str)) = false := by decide) (hcd : (x == ("__classdict__" : Str)) = false := by decide) : PE X (.Name x pos) (tVar i) :=
  pe_var (by rw [hN]; exact h1) (.inl (by rw [hs]; exact h2)) hd hcd
theorem aN (hN : X.N = N) (hs : X.env.scope = sc) (nd : N.Nodup) (i : Nat) {x : Str} {e : Expr} {te : TE} {pos pos' : Pos} (he : PE X e te) (h1 : N[i]? = some x := by rfl) (h2 : sc.names.lookup x = some .local := by rfl) (hw : swapsWith e (some (.Name x pos')) pos.line X.env = pure false := by rfl) : PS X (.Assign [.Name x pos'] e pos) (tAsg te (gName i)) :=
  ps_set (by rw [hN]; exact nd) (by rw [hN]; exact h1) (.inl (by rw [hs]; exact h2)) he hw (.inr (by rw [hs]; exact h2))
theorem glN (hs : X.env.scope = sc) {x : Str} (h : sc.names.lookup x = some .globalImplicit) : Gl X x := by
  unfold Gl Env.kindOf
  rw [hs]
  exact h
end
end TM

namespace TM
open PySem
/-! ### the draws as an oracle: what holds whatever is drawn holds of the script's draws -/
def WP {α : Type} (m : R α) (Q : α → Wd → Prop) (E : Str → Wd → Prop) : Prop := match m with
  | .ok a w => Q a w
  | .exc c w => E c w
  | .bad => False
theorem WP.bind {α β : Type} {m : R α} {f : α → Wd → R β} {Q : β → Wd → Prop} {E : Str → Wd → Prop} : WP (m.bind f) Q E ↔ WP m (fun a w => WP (f a w) Q E) E := by
  cases m <;> exact Iff.rfl
abbrev Orc := Nat → Int → Int
def OkO (o : Orc) : Prop := ∀ i l, 0 < l → 0 ≤ o i l ∧ o i l < l
def Orc.tl (o : Orc) : Orc := fun i => o (i + 1)
def Orc.cons (l v : Int) (o : Orc) : Orc := fun i l' => match i with
  | 0 => if l' = l then v else 0
  | i + 1 => o i l'
theorem okO_cons {l v : Int} {o : Orc} (h : OkO o) (h0 : 0 ≤ v) (h1 : v < l) : OkO (Orc.cons l v o) := by
  intro i l' hl
  cases i with
  | zero =>
    show 0 ≤ (if l' = l then v else 0) ∧ (if l' = l then v else 0) < l'
    split
    · subst l'; exact ⟨h0, h1⟩
    · exact ⟨Int.le_refl _, hl⟩
  | succ i => exact h i l' hl
theorem okO_tl {o : Orc} (h : OkO o) : OkO o.tl := fun i l hl => h (i + 1) l hl
/-- the real world and the oracle's, before and behind the start -/
def ow : Option Wd → Orc → Wd
  | none, o => [.orc o]
  | some r, o => .orc o :: .scr [] :: r
def Gd : Option Wd → Wd → Prop
  | none, w => ∃ ns, w = [.scr ns] ∧ ns.length ≤ 1000
  | some r, w => ∃ ns ms c, w = .scr ns :: .drw ms c :: r ∧ ms ≠ [] ∧ ms.length ≤ 1000
def Sim {α : Type} (X XO : Wd → R α) : Prop := ∀ (p : Option Wd) (w : Wd), Gd p w → ∀ (Q QO : α → Wd → Prop) (E EO : Str → Wd → Prop),
  (∀ p w a, Gd p w → (∀ o, OkO o → QO a (ow p o)) → Q a w) → (∀ p w c, Gd p w → (∀ o, OkO o → EO c (ow p o)) → E c w) →
  (∀ o, OkO o → WP (XO (ow p o)) QO EO) → WP (X w) Q E
def o0 : Orc := fun _ _ => 0
theorem ok_o0 : OkO o0 := fun _ _ h => ⟨Int.le_refl _, h⟩
section
variable {α β : Type}
theorem Sim.pure (a : α) : Sim (fun w => .ok a w) (fun w => .ok a w) := fun p w g Q QO E EO hq he h => hq p w a g h
theorem Sim.exc (c : Str) : Sim (α := α) (fun w => .exc c w) (fun w => .exc c w) := fun p w g Q QO E EO hq he h => he p w c g h
theorem Sim.bad : Sim (α := α) (fun _ => .bad) (fun _ => .bad) := fun p w g Q QO E EO hq he h => h o0 ok_o0
theorem Sim.of (o : Option α) : Sim (fun w => R.of o w) (fun w => R.of o w) := by
  cases o with
  | none => exact Sim.bad
  | some a => exact Sim.pure a
theorem Sim.bind {X XO : Wd → R α} {f fO : α → Wd → R β} (hx : Sim X XO) (hf : ∀ a, Sim (f a) (fO a)) : Sim (fun w => (X w).bind f) (fun w => (XO w).bind fO) := by
  intro p w g Q QO E EO hq he h
  refine WP.bind.mpr (hx p w g _ (fun a w => WP (fO a w) QO EO) E EO (fun p w a g h' => hf a p w g Q QO E EO hq he h') he fun o ho => WP.bind.mp (h o ho))
end
/-- what reads alike in both worlds -/
theorem Sim.rd {α β : Type} {h : Wd → β} (hh : ∀ p w o, Gd p w → h w = h (ow p o)) {F FO : β → Wd → R α} (hf : ∀ b, Sim (F b) (FO b)) : Sim (fun w => F (h w) w) (fun w => FO (h w) w) := by
  intro p w g Q QO E EO hq he q
  exact hf (h w) p w g Q QO E EO hq he fun o ho => by
    have z : WP (FO (h (ow p o)) (ow p o)) QO EO := q o ho
    rw [← hh p w o g] at z
    exact z
theorem wat_alike (k : Nat) : ∀ p w o, Gd p w → (match w[k]? with | some (.wat sz nm nb ns) => some (sz, nm, nb, ns) | _ => none) = (match (ow p o)[k]? with | some (.wat sz nm nb ns) => some (sz, nm, nb, ns) | _ => none) := by
  intro p w o g
  cases p with
  | none =>
    obtain ⟨ns, rfl, _⟩ := g
    match k with
    | 0 => rfl
    | k + 1 => rfl
  | some r =>
    obtain ⟨ns, ms, c, rfl, _, _⟩ := g
    match k with
    | 0 => rfl
    | 1 => rfl
    | k + 2 => rfl
theorem isWat_alike (k : Nat) : ∀ p w o, Gd p w → isWat w[k]? = isWat (ow p o)[k]? := by
  intro p w o g
  cases p with
  | none =>
    obtain ⟨ns, rfl, _⟩ := g
    match k with
    | 0 => rfl
    | k + 1 => rfl
  | some r =>
    obtain ⟨ns, ms, c, rfl, _, _⟩ := g
    match k with
    | 0 => rfl
    | 1 => rfl
    | k + 2 => rfl
theorem Sim.setW {α : Type} {X XO : Wd → R α} (h : Sim X XO) (k : Nat) (x : WO) : Sim (fun w => if isWat w[k]? then X (w.set k x) else .bad) (fun w => if isWat w[k]? then XO (w.set k x) else .bad) := by
  intro p w g Q QO E EO hq he q
  have nope : ∀ o, isWat (ow p o)[k]? = false → WP (if isWat w[k]? then X (w.set k x) else .bad) Q E := fun o hf => by
    have z : WP (if isWat (ow p o0)[k]? = true then XO ((ow p o0).set k x) else .bad) QO EO := q o0 ok_o0
    have hf2 : isWat (ow p o0)[k]? = false := by rw [← isWat_alike k p w o0 g, isWat_alike k p w o g]; exact hf
    rw [hf2] at z
    exact z.elim
  cases p with
  | none => exact nope o0 (by match k with | 0 => rfl | k + 1 => rfl)
  | some r =>
    match k with
    | 0 => exact nope o0 rfl
    | 1 => exact nope o0 rfl
    | k + 2 =>
      obtain ⟨ns, ms, c, rfl, h1, h2⟩ := g
      cases hw : isWat r[k]? with
      | false => exact nope o0 hw
      | true =>
        show WP (if isWat r[k]? = true then X (.scr ns :: .drw ms c :: r.set k x) else .bad) Q E
        rw [if_pos hw]
        refine h (some (r.set k x)) _ ⟨ns, ms, c, rfl, h1, h2⟩ Q QO E EO hq he fun o ho => ?_
        have z : WP (if isWat (ow (some r) o)[k + 2]? = true then XO ((ow (some r) o).set (k + 2) x) else .bad) QO EO := q o ho
        have e : (if isWat (ow (some r) o)[k + 2]? then XO ((ow (some r) o).set (k + 2) x) else .bad) = XO (ow (some (r.set k x)) o) := by
          show (if isWat r[k]? = true then XO (.orc o :: .scr [] :: r.set k x) else .bad) = _
          rw [if_pos hw]
          rfl
        rw [e] at z
        exact z
theorem Sim.appW (x : WO) : Sim (fun w => if 2 ≤ w.length then .ok (RV.val (spc w.length)) (w ++ [x]) else .bad) (fun w => if 2 ≤ w.length then .ok (RV.val (spc w.length)) (w ++ [x]) else .bad) := by
  intro p w g Q QO E EO hq he q
  cases p with
  | none =>
    have z := q o0 ok_o0
    exact (z : False).elim
  | some r =>
    obtain ⟨ns, ms, c, rfl, h1, h2⟩ := g
    have e : ∀ a b : WO, (if 2 ≤ (a :: b :: r).length then R.ok (RV.val (spc (a :: b :: r).length)) ((a :: b :: r) ++ [x]) else .bad) = .ok (RV.val (spc (r.length + 2))) (a :: b :: (r ++ [x])) := fun a b => by
      rw [if_pos (by simp)]
      rfl
    show WP (if 2 ≤ (WO.scr ns :: WO.drw ms c :: r).length then R.ok (RV.val (spc (WO.scr ns :: WO.drw ms c :: r).length)) ((WO.scr ns :: WO.drw ms c :: r) ++ [x]) else .bad) Q E
    rw [e]
    refine hq (some (r ++ [x])) _ _ ⟨ns, ms, c, rfl, h1, h2⟩ fun o ho => ?_
    have z : WP (if 2 ≤ (WO.orc o :: WO.scr [] :: r).length then R.ok (RV.val (spc (WO.orc o :: WO.scr [] :: r).length)) ((WO.orc o :: WO.scr [] :: r) ++ [x]) else .bad) QO EO := q o ho
    rw [e] at z
    exact z
/-- an exception barred, an exception as a value -/
def noX {α : Type} (m : R α) : R α := match m with
  | .exc _ _ => .bad
  | m => m
def catX {α : Type} (m : R α) : R (α ⊕ Str) := match m with
  | .ok a w => .ok (.inl a) w
  | .exc c w => .ok (.inr c) w
  | .bad => .bad
theorem Sim.noX {α : Type} {X XO : Wd → R α} (h : Sim X XO) : Sim (fun w => noX (X w)) (fun w => noX (XO w)) := by
  intro p w g Q QO E EO hq he q
  have t1 : ∀ {m : R α} {Q E}, WP (TM.noX m) Q E → WP m Q (fun _ _ => False) := fun {m Q E} z => by cases m <;> exact z
  have t2 : ∀ {m : R α} {Q E}, WP m Q (fun _ _ => False) → WP (TM.noX m) Q E := fun {m Q E} z => by cases m <;> exact z
  exact t2 (h p w g Q QO (fun _ _ => False) (fun _ _ => False) hq (fun _ _ _ _ z => z o0 ok_o0) fun o ho => t1 (q o ho))
theorem Sim.catX {α : Type} {X XO : Wd → R α} (h : Sim X XO) : Sim (fun w => catX (X w)) (fun w => catX (XO w)) := by
  intro p w g Q QO E EO hq he q
  have t1 : ∀ {m : R α} {Q E}, WP (TM.catX m) Q E → WP m (fun a w => Q (.inl a) w) (fun c w => Q (.inr c) w) := fun {m Q E} z => by cases m <;> exact z
  have t2 : ∀ {m : R α} {Q E}, WP m (fun a w => Q (.inl a) w) (fun c w => Q (.inr c) w) → WP (TM.catX m) Q E := fun {m Q E} z => by cases m <;> exact z
  exact t2 (h p w g _ (fun a w => QO (.inl a) w) _ (fun c w => QO (.inr c) w) (fun p w a g z => hq p w _ g z) (fun p w c g z => hq p w _ g z) fun o ho => t1 (q o ho))
abbrev SimE (f fO : EvF) : Prop := ∀ e, Sim (f e) (fO e)
section
variable {f fO : EvF} {G GO : Cn}
theorem sim_evs (h : SimE f fO) : ∀ es, Sim (evsW f es) (evsW fO es)
  | [] => Sim.pure _
  | e :: r => Sim.bind (h e) fun v => Sim.bind (sim_evs h r) fun vs => Sim.pure _
theorem sim_and (h : SimE f fO) : ∀ es, Sim (andW f es) (andW fO es)
  | [] => Sim.bad
  | e :: r => Sim.bind (h e) fun v => by
    split
    · cases r with
      | nil => exact Sim.pure _
      | cons a r => exact sim_and h (a :: r)
    · exact Sim.pure _
    · exact Sim.bad
theorem sim_or (h : SimE f fO) : ∀ es, Sim (orW f es) (orW fO es)
  | [] => Sim.bad
  | e :: r => Sim.bind (h e) fun v => by
    split
    · cases r with
      | nil => exact Sim.pure _
      | cons a r => exact sim_or h (a :: r)
    · exact Sim.pure _
    · exact Sim.bad
theorem sim_opt (h : SimE f fO) : ∀ e, Sim (optW f e) (optW fO e)
  | none => Sim.pure _
  | some e => Sim.bind (h e) fun v => by
    split
    · exact Sim.pure _
    · exact Sim.bad
theorem sim_callT {T TO : Tab} (h : ∀ g vs, Sim (T g vs) (TO g vs)) (g : Str) (vs : List RV) : Sim (callT T g vs) (callT TO g vs) :=
  Sim.bind (h _ _) fun r => by
    split
    · exact Sim.bad
    · exact Sim.pure _
theorem sim_compL {k kO : D → Wd → R (Option D)} (h : ∀ d, Sim (k d) (kO d)) : ∀ ds, Sim (compL k ds) (compL kO ds)
  | [] => Sim.pure _
  | d :: r => Sim.bind (h d) fun o => Sim.bind (sim_compL h r) fun ds => Sim.pure _
theorem sim_cst (c : Const) : Sim (cstW c) (cstW c) := by
  cases c <;> first | exact Sim.pure _ | exact Sim.bad
theorem sim_slot (o : Option (Option RV)) : Sim (slotW o) (slotW o) := by
  unfold slotW
  split <;> first | exact Sim.pure _ | exact Sim.bad
end
/-- the same but for the answers -/
structure SimG (G GO : Cn) : Prop where
  T : ∀ g vs, Sim (G.T g vs) (GO.T g vs)
  dfn : GO.dfn = G.dfn
  cst : GO.cst = G.cst
  N : GO.N = G.N
  mt : GO.mt = G.mt
  xs : GO.xs = G.xs
  wt : GO.wt = G.wt
section
variable {f fO : EvF} {G GO : Cn}
theorem sim_name (g : SimG G GO) (x : Str) (s : Sl) : Sim (nameW G x s) (nameW GO x s) := by
  unfold nameW
  rw [g.N, g.cst]
  split
  · exact sim_slot _
  · exact Sim.of _
theorem sim_bin (h : SimE f fO) (a : Expr) (op : Operator) (b : Expr) : Sim (binW f a op b) (binW fO a op b) := Sim.bind (h a) fun x => Sim.bind (h b) fun y => Sim.of _
theorem sim_un (h : SimE f fO) (op : UnaryOp) (a : Expr) : Sim (unW f op a) (unW fO op a) := Sim.bind (h a) fun x => Sim.of _
theorem sim_bool (h : SimE f fO) (op : BoolOp) (es : List Expr) : Sim (boolW f op es) (boolW fO op es) := by
  cases op
  · exact sim_and h es
  · exact sim_or h es
theorem sim_if (h : SimE f fO) (t a b : Expr) : Sim (ifW f t a b) (ifW fO t a b) := Sim.bind (h t) fun x => by
  split
  · exact Sim.bind (h a) fun y => Sim.of _
  · exact Sim.bind (h b) fun y => Sim.of _
  · exact Sim.bad
theorem sim_cmp (h : SimE f fO) (a : Expr) (ops : List CmpOp) (bs : List Expr) : Sim (cmpW f a ops bs) (cmpW fO a ops bs) := by
  unfold cmpW
  split
  · exact Sim.bind (h _) fun x => Sim.bind (h _) fun y => Sim.of _
  · refine Sim.bind (h _) fun x => Sim.bind (h _) fun y => Sim.bind (Sim.of _) fun z => ?_
    cases z
    · exact Sim.pure _
    · exact Sim.bind (h _) fun u => Sim.of _
  · exact Sim.bad
theorem sim_tup (h : SimE f fO) (es : List Expr) : Sim (tupW f es) (tupW fO es) := Sim.bind (sim_evs h es) fun vs => by
  split
  · split
    · exact Sim.pure _
    · exact Sim.bad
  · exact Sim.bad
theorem sim_lst (h : SimE f fO) (es : List Expr) : Sim (lstW f es) (lstW fO es) := Sim.bind (sim_evs h es) fun vs => by
  split
  · split
    · exact Sim.pure _
    · exact Sim.bad
  · exact Sim.bad
theorem sim_sub (h : SimE f fO) (a b : Expr) : Sim (subW f a b) (subW fO a b) := by
  unfold subW
  split
  · exact Sim.bind (h a) fun x => Sim.bind (sim_opt h _) fun l => Sim.bind (sim_opt h _) fun h => Sim.of _
  · split
    · exact Sim.bind (h a) fun x => Sim.of _
    · exact Sim.bad
  · exact Sim.bad
  · exact Sim.bind (h a) fun x => Sim.bind (h _) fun y => Sim.of _
theorem isRange_eq (g : SimG G GO) (e : Expr) : isRange GO e = isRange G e := by
  unfold isRange
  rw [g.dfn]
theorem sim_lenK (v : RV) : Sim (lenK v) (lenK v) := by
  unfold lenK
  split
  · split
    · exact Sim.pure _
    · exact Sim.bad
  · exact Sim.bad
theorem sim_bltR (g : SimG G GO) (b : Blt) (vs : List RV) : Sim (bltR G b vs) (bltR GO b vs) := by
  unfold bltR
  rw [g.wt]
  cases lenS b vs with
  | none => exact Sim.of _
  | some k =>
    refine Sim.rd (isWat_alike k) (F := fun z w => if (z && G.wt "Watcher.__len__") = true then (G.T "Watcher.__len__" [.dict [(.int (.ofNat k), .none)]] w).bind lenK else .bad) (FO := fun z w => if (z && G.wt "Watcher.__len__") = true then (GO.T "Watcher.__len__" [.dict [(.int (.ofNat k), .none)]] w).bind lenK else .bad) fun z => ?_
    split
    · exact Sim.bind (g.T _ _) fun v => sim_lenK v
    · exact Sim.bad
theorem sim_blt (g : SimG G GO) (h : SimE f fO) (b : Blt) (args : List Expr) : Sim (bltW G f b args) (bltW GO fO b args) := by
  unfold bltW
  rw [g.N, g.xs]
  split
  · exact Sim.bad
  · split
    · split
      · exact Sim.bind (h _) fun x => Sim.of _
      · exact Sim.bad
    · exact Sim.bad
  · split
    · rw [isRange_eq g]
      split
      · refine Sim.bind (sim_evs h _) fun vs => ?_
        split
        · exact Sim.bad
        · exact Sim.of _
      · exact Sim.bind (h _) fun x => Sim.of _
    · exact Sim.bad
  · split
    · exact Sim.bad
    · exact Sim.bind (sim_evs h _) fun vs => sim_bltR g _ vs
theorem sim_call (g : SimG G GO) (h : SimE f fO) (c : Expr) (args : List Expr) (kws : List Keyword) : Sim (callW G f c args kws) (callW GO fO c args kws) := by
  unfold callW
  rw [g.dfn, g.wt]
  split
  · exact Sim.bad
  · split
    · split
      · exact Sim.bind (sim_evs h _) fun vs => sim_callT g.T _ vs
      · split
        · exact sim_blt g h _ _
        · split
          · refine Sim.bind (sim_evs h _) fun vs => ?_
            cases datS vs with
            | none => exact Sim.bad
            | some ds => exact g.T _ _
          · exact Sim.bad
    · refine Sim.bind (h _) fun x => ?_
      cases spcK x with
      | none =>
        dsimp only
        split
        · exact Sim.bind (h _) fun y => Sim.of _
        · exact Sim.bad
      | some k =>
        dsimp only
        cases wTab.lookup _ with
        | none =>
          dsimp only
          refine Sim.rd (isWat_alike k) (F := fun b w => if (b && decide (args.length ≤ 1)) = true then .bad else .bad) (FO := fun b w => if (b && decide (args.length ≤ 1)) = true then .bad else .bad) fun b => ?_
          split <;> exact Sim.bad
        | some z =>
          dsimp only
          refine Sim.rd (isWat_alike k) (F := fun b w => if (b && decide (args.length ≤ 1)) = true then (if G.wt z = true then (evsW f args w).bind fun vs w => callT G.T z (x :: vs) w else .bad) else .bad) (FO := fun b w => if (b && decide (args.length ≤ 1)) = true then (if G.wt z = true then (evsW fO args w).bind fun vs w => callT GO.T z (x :: vs) w else .bad) else .bad) fun b => ?_
          split
          · split
            · exact Sim.bind (sim_evs h _) fun vs => sim_callT g.T _ _
            · exact Sim.bad
          · exact Sim.bad
    · exact Sim.bad
theorem sim_fmt (v : RV) : Sim (fmtC v) (fmtC v) := by
  unfold fmtC
  split
  · split
    · exact Sim.pure _
    · exact Sim.bad
  · split
    · exact Sim.pure _
    · exact Sim.bad
  · exact Sim.bad
theorem sim_jn (h : SimE f fO) : ∀ (es : List Expr) (acc : Str), Sim (jnW f es acc) (jnW fO es acc)
  | [], acc => Sim.pure _
  | e :: es, acc => Sim.bind (h e) fun v => by
    split
    · split
      · exact sim_jn h es _
      · exact Sim.bad
    · exact Sim.bad
theorem sim_jst (h : SimE f fO) (es : List Expr) : Sim (jstW f es) (jstW fO es) := by
  unfold jstW
  split
  · exact Sim.bind (sim_jn h _ _) fun x => Sim.pure _
  · exact Sim.bad
theorem sim_iter (g : SimG G GO) (h : SimE f fO) (b : Bool) (e : Expr) : Sim (iterW b G f e) (iterW b GO fO e) := by
  unfold iterW
  rw [isRange_eq g]
  split
  · exact Sim.bind (sim_evs h _) fun vs => Sim.of _
  · refine Sim.bind (h _) fun x => ?_
    split
    · exact Sim.bad
    · exact Sim.of _
theorem sim_ifs (h : SimE f fO) (ifs : List Expr) : Sim (ifsW f ifs) (ifsW fO ifs) := by
  unfold ifsW
  split
  · exact Sim.pure _
  · exact Sim.bind (h _) fun x => Sim.of _
  · exact Sim.bad
abbrev SimS (f fO : Sl → EvF) : Prop := ∀ s e, Sim (f s e) (fO s e)
variable {k kO : Sl → EvF}
theorem sim_elt (g : SimG G GO) (h : SimS k kO) (elt tg : Expr) (ifs : List Expr) (s : Sl) (d : D) : Sim (eltW G k elt tg ifs s d) (eltW GO kO elt tg ifs s d) := by
  unfold eltW
  rw [g.N]
  split
  · exact Sim.bad
  · refine Sim.bind (sim_ifs (h _) _) fun b => ?_
    cases b
    · exact Sim.pure _
    · exact Sim.bind (h _ _) fun x => Sim.of _
theorem isDct_eq (g : SimG G GO) (e : Expr) (s : Sl) : isDct GO e s = isDct G e s := by
  unfold isDct
  rw [g.N]
theorem isDget_eq (g : SimG G GO) (s : Sl) (f : Expr) (args : List Expr) (kws : List Keyword) : isDget GO s f args kws = isDget G s f args kws := by
  unfold isDget
  cases f with
  | Attribute o m p =>
    dsimp only
    rw [isDct_eq g]
  | _ => rfl
theorem isDst_eq (g : SimG G GO) (s : Sl) (t : Expr) : isDst GO s t = isDst G s t := by
  unfold isDst
  cases t with
  | Subscript o b p =>
    dsimp only
    rw [isDct_eq g]
  | _ => rfl
theorem isDcomp_eq (g : SimG G GO) (e : Expr) (s : Sl) : isDcomp GO e s = isDcomp G e s := by
  unfold isDcomp
  split
  · rw [isDct_eq g]
  · rfl
theorem sim_dget (h : SimE f fO) (ps : Dct) (a b : Expr) : Sim (dgetW f ps a b) (dgetW fO ps a b) := Sim.bind (h a) fun x => Sim.bind (h b) fun y => by
  split
  · exact Sim.pure _
  · exact Sim.bad
theorem sim_dix (h : SimE f fO) (ps : Dct) (b : Expr) : Sim (dixW f ps b) (dixW fO ps b) := Sim.bind (h b) fun x => by
  split
  · exact Sim.of _
  · exact Sim.bad
theorem sim_itc (g : SimG G GO) (h : SimS k kO) (iter : Expr) (s : Sl) : Sim (itcW G k iter s) (itcW GO kO iter s) := by
  unfold itcW
  rw [isDct_eq g]
  split
  · exact Sim.pure _
  · exact sim_iter g (h s) _ _
theorem sim_comp (g : SimG G GO) (h : SimS k kO) (elt : Expr) (gens : List Comprehension) (sc : Scope) (s : Sl) : Sim (compW G k elt gens sc s) (compW GO kO elt gens sc s) := by
  unfold compW
  rw [g.N]
  split
  · split
    · refine Sim.bind (sim_itc g h _ s) fun ds => Sim.bind (sim_compL (sim_elt g h elt _ _ _) _) fun ds => ?_
      split
      · exact Sim.pure _
      · exact Sim.bad
    · exact Sim.bad
  · exact Sim.bad
theorem sim_ev (g : SimG G GO) : ∀ (n : Nat) (s : Sl) (e : Expr), Sim (ev n G s e) (ev n GO s e)
  | 0, s, e => Sim.bad
  | n + 1, s, e => by
    have ih := sim_ev g n
    cases e with
    | Constant c _ _ => exact sim_cst c
    | Name x _ => exact sim_name g x s
    | BinOp a op b _ => exact sim_bin (ih s) a op b
    | UnaryOp op a _ => exact sim_un (ih s) op a
    | BoolOp op es _ => exact sim_bool (ih s) op es
    | IfExp t a b _ => exact sim_if (ih s) t a b
    | Compare a ops bs _ => exact sim_cmp (ih s) a ops bs
    | Tuple es _ _ => exact sim_tup (ih s) es
    | List es _ => exact sim_lst (ih s) es
    | Subscript a b _ =>
      show Sim (fun w => match isDct G a s with
        | some (_, ps) => if isSlice b then .bad else dixW (ev n G s) ps b w
        | none => subW (ev n G s) a b w) (fun w => match isDct GO a s with
        | some (_, ps) => if isSlice b then .bad else dixW (ev n GO s) ps b w
        | none => subW (ev n GO s) a b w)
      rw [isDct_eq g]
      cases isDct G a s with
      | none => exact sim_sub (ih s) a b
      | some q =>
        obtain ⟨j, ps⟩ := q
        dsimp only
        split
        · exact Sim.bad
        · exact sim_dix (ih s) ps b
    | Call c args kws _ =>
      show Sim (fun w => match isDget G s c args kws with
        | some (ps, a, b) => dgetW (ev n G s) ps a b w
        | none => callW G (ev n G s) c args kws w) (fun w => match isDget GO s c args kws with
        | some (ps, a, b) => dgetW (ev n GO s) ps a b w
        | none => callW GO (ev n GO s) c args kws w)
      rw [isDget_eq g]
      cases isDget G s c args kws with
      | none => exact sim_call g (ih s) c args kws
      | some q =>
        obtain ⟨ps, a, b⟩ := q
        exact sim_dget (ih s) ps a b
    | ListComp elt gens sc _ => exact sim_comp g ih elt gens sc s
    | JoinedStr es _ => exact sim_jst (ih s) es
    | FormattedValue a c sp _ =>
      cases sp with
      | some x => exact Sim.bad
      | none =>
        show Sim (fun w => if c = -1 then (ev n G s a w).bind fmtC else .bad) (fun w => if c = -1 then (ev n GO s a w).bind fmtC else .bad)
        by_cases h1 : c = -1
        · simp only [if_pos h1]
          exact Sim.bind (ih s a) fun v => sim_fmt v
        · simp only [if_neg h1]
          exact Sim.bad
    | _ => exact Sim.bad
theorem sim_stT (g : SimG G GO) (h : SimS k kO) (t : Expr) (d : D) (s : Sl) : Sim (stT G k t d s) (stT GO kO t d s) := by
  unfold stT
  rw [g.N]
  split
  · split
    · exact Sim.pure _
    · exact Sim.bad
  · split
    · exact Sim.bad
    · split
      · split
        · refine Sim.bind (h _ _) fun y => ?_
          split
          · split
            · exact Sim.pure _
            · exact Sim.bad
          · exact Sim.bad
        · exact Sim.bad
      · exact Sim.bad
  · exact Sim.bad
theorem sim_stTs (g : SimG G GO) (h : SimS k kO) : ∀ (ts : List Expr) (ds : List D) (s : Sl), Sim (stTs G k ts ds s) (stTs GO kO ts ds s)
  | [], ds, s => by
    cases ds
    · exact Sim.pure _
    · exact Sim.bad
  | t :: ts, ds, s => by
    cases ds
    · exact Sim.bad
    · exact Sim.bind (sim_stT g h _ _ _) fun s => sim_stTs g h ts _ s
theorem isOwn_eq (g : SimG G GO) (e : Expr) (s : Sl) : isOwn GO e s = isOwn G e s := by
  unfold isOwn
  rw [g.N]
theorem sim_asgN (g : SimG G GO) (i : Nat) (x : Str) (v : RV) (s : Sl) : Sim (asgN G i x v s) (asgN GO i x v s) := by
  unfold asgN
  rw [g.mt]
  split
  · exact Sim.pure _
  · split
    · exact Sim.pure _
    · exact Sim.pure _
  · exact Sim.bad
theorem sim_asg (g : SimG G GO) (h : SimS k kO) (t e : Expr) (s : Sl) : Sim (asgW G k t e s) (asgW GO kO t e s) := by
  unfold asgW
  rw [g.N, isOwn_eq g, isDcomp_eq g]
  split
  · split
    · exact Sim.bad
    · split
      · split
        · exact Sim.pure _
        · exact Sim.bad
      split
      · exact Sim.bad
      split
      · exact Sim.pure _
      · exact Sim.bind (h _ _) fun v => sim_asgN g _ _ v s
  · refine Sim.bind (h _ _) fun v => ?_
    split
    · exact sim_stTs g h _ _ _
    · exact Sim.bad
  · rw [isDst_eq g]
    split
    · refine Sim.bind (h _ _) fun v => ?_
      split
      · refine Sim.bind (h _ _) fun x => ?_
        split
        · split
          · exact Sim.pure _
          · exact Sim.bad
        · exact Sim.bad
      · exact Sim.bad
    · refine Sim.bind (h _ _) fun v => ?_
      split
      · exact sim_stT g h _ _ _
      · exact Sim.bad
theorem sim_aug (g : SimG G GO) (h : SimS k kO) (t : Expr) (op : Operator) (e : Expr) (s : Sl) : Sim (augW G k t op e s) (augW GO kO t op e s) := by
  unfold augW
  rw [g.N]
  split
  · split
    · split
      · refine Sim.bind (h _ _) fun v => ?_
        split
        · exact Sim.pure _
        · exact Sim.bad
      · exact Sim.bad
    · exact Sim.bad
  · exact Sim.bad
theorem sim_mut (g : SimG G GO) (h : SimS k kO) (x m : Str) (a : Expr) (s : Sl) : Sim (mutW G k x m a s) (mutW GO kO x m a s) := by
  unfold mutW
  rw [g.N]
  split
  · split
    · refine Sim.bind (h _ _) fun v => ?_
      split
      · split
        · exact Sim.pure _
        · exact Sim.bad
      · exact Sim.bad
    · exact Sim.bad
  · exact Sim.bad
theorem sim_expr (g : SimG G GO) (h : SimS k kO) (e : Expr) (s : Sl) : Sim (exprW G k e s) (exprW GO kO e s) := by
  unfold exprW
  split
  · exact sim_mut g h _ _ _ _
  · split
    · unfold appW
      refine Sim.bind (h _ _) fun v => ?_
      split
      · split
        · exact Sim.bind (h _ _) fun _ => Sim.pure _
        · exact Sim.bad
      · exact Sim.bad
    · exact Sim.bind (h _ _) fun _ => Sim.pure _
theorem frzN_eq (g : SimG G GO) (e : Expr) (s : Sl) : frzN GO e s = frzN G e s := by
  unfold frzN
  rw [g.N]
theorem sim_execs {F FO : Stmt → Sl → Wd → R Out} (h : ∀ st s, Sim (F st s) (FO st s)) : ∀ (b : List Stmt) (s : Sl), Sim (execs F b s) (execs FO b s)
  | [], s => Sim.pure _
  | st :: r, s => Sim.bind (h st s) fun o => by
    cases o with
    | nxt s => exact sim_execs h r s
    | _ => exact Sim.pure _
theorem sim_for {F FO : D → Sl → Wd → R Out} (h : ∀ d s, Sim (F d s) (FO d s)) : ∀ (ds : List D) (s : Sl), Sim (forL F ds s) (forL FO ds s)
  | [], s => Sim.pure _
  | d :: r, s => Sim.bind (h d s) fun o => by
    cases o with
    | nxt s => exact sim_for h r s
    | cnt s => exact sim_for h r s
    | _ => exact Sim.pure _
theorem sim_whl {C CO : Sl → Wd → R Bool} {F FO : Sl → Wd → R Out} (hc : ∀ s, Sim (C s) (CO s)) (h : ∀ s, Sim (F s) (FO s)) : ∀ (n : Nat) (s : Sl), Sim (whlL C F n s) (whlL CO FO n s)
  | 0, s => Sim.bad
  | n + 1, s => Sim.bind (hc s) fun b => by
    cases b with
    | false => exact Sim.pure _
    | true =>
      refine Sim.bind (h s) fun o => ?_
      cases o with
      | nxt s => exact sim_whl hc h n s
      | cnt s => exact sim_whl hc h n s
      | _ => exact Sim.pure _
theorem sim_ret (g : SimG G GO) (h : SimE f fO) (e : Expr) (s : Sl) : Sim (retW G f e s) (retW GO fO e s) := by
  unfold retW
  rw [isOwn_eq g]
  split
  · exact Sim.pure _
  · refine Sim.bind (h _) fun v => ?_
    split
    · exact Sim.bad
    · exact Sim.pure _
theorem sim_tst (h : SimE f fO) (c : Expr) : Sim (tstW f c) (tstW fO c) := Sim.bind (h c) fun x => Sim.of _
theorem sim_whlT {C CO : Sl → Wd → R Bool} {F FO : Sl → Wd → R Out} (hc : ∀ s, Sim (C s) (CO s)) (h : ∀ s, Sim (F s) (FO s)) {m : Nat} (s : Sl) : Sim (whlL C F m s) (whlL CO FO m s) := sim_whl hc h m s
theorem sim_exw {n : Nat} {c : Expr} {body : List Stmt} {pos : Pos} {s : Sl} (ie : SimS (ev evF G) (ev evF GO)) (ih : ∀ st s, Sim (ex n G st s) (ex n GO st s)) : Sim (ex (n + 1) G (.While c body [] pos) s) (ex (n + 1) GO (.While c body [] pos) s) := by
  have e1 : ∀ (H : Cn) (w : Wd), ex (n + 1) H (.While c body [] pos) s w = whlL (fun s w => tstW (ev evF H s) c w) (fun s w => execs (ex n H) body s w) turns s w := fun H w => rfl
  have e : ∀ H : Cn, ex (n + 1) H (.While c body [] pos) s = whlL (fun s w => tstW (ev evF H s) c w) (fun s w => execs (ex n H) body s w) turns s := fun H => funext (e1 H)
  rw [e, e]
  exact sim_whlT (fun s => sim_tst (ie s) c) (fun s => sim_execs ih body s) s
inductive TopK where
  | call (x : Str) (args : List Expr)
  | meth (o m : Str) (p : Pos) (args : List Expr)
  | ife (t a b : Expr)
  | other
def topK : Expr → TopK
  | .Call (.Name x _) args [] _ => .call x args
  | .Call (.Attribute (.Name o p) m _) args [] _ => .meth o m p args
  | .IfExp t a b _ => .ife t a b
  | _ => .other
theorem topK_call {e : Expr} {x : Str} {args : List Expr} (h : topK e = .call x args) : ∃ p q, e = .Call (.Name x p) args [] q := by
  unfold topK at h
  split at h
  · cases h; exact ⟨_, _, rfl⟩
  · cases h
  · cases h
  · cases h
theorem topK_meth {e : Expr} {o m : Str} {p : Pos} {args : List Expr} (h : topK e = .meth o m p args) : ∃ q r, e = .Call (.Attribute (.Name o p) m q) args [] r := by
  unfold topK at h
  split at h
  · cases h
  · cases h; exact ⟨_, _, rfl⟩
  · cases h
  · cases h
theorem topK_ife {e t a b : Expr} (h : topK e = .ife t a b) : ∃ q, e = .IfExp t a b q := by
  unfold topK at h
  split at h
  · cases h
  · cases h
  · cases h; exact ⟨_, rfl⟩
  · cases h
theorem topK_other {e : Expr} (h : topK e = .other) {n : Nat} {G : Cn} {s : Sl} {w : Wd} : topB (n + 1) G s e w = false := by
  cases e with
  | Call g a k q =>
    cases g with
    | Name x p => cases k with
      | nil => cases h
      | cons _ _ => rfl
    | Attribute o m p =>
      cases o with
      | Name x p2 => cases k with
        | nil => cases h
        | cons _ _ => rfl
      | _ => rfl
    | _ => rfl
  | IfExp t a b q => cases h
  | _ => rfl
/-- the class is called; a method is called: the value or the exception -/
def mkX (G : Cn) (vs : List RV) (w : Wd) : R (RV ⊕ Str) := match datS vs with
  | some ds => catX (G.T "Watcher.__init__" ds w)
  | none => .bad
def mt1 (f : EvF) (x : RV) (m : Str) (args : List Expr) (w : Wd) : R RV := match args with
  | [a] => (f a w).bind fun y w => R.of (mtop m x [y]) w
  | _ => .bad
def atX (G : Cn) (f : EvF) (x : RV) (m : Str) (args : List Expr) (w : Wd) : R RV := match spcK x with
  | some k => if isWat w[k]? && decide (args.length ≤ 1) then (match wTab.lookup m with
    | some z => if G.wt z then (evsW f args w).bind fun vs w => callT G.T z (x :: vs) w else .bad
    | none => .bad) else .bad
  | none => mt1 f x m args w
def metX (G : Cn) (f : EvF) (x : RV) (m : Str) (args : List Expr) (w : Wd) : R (RV ⊕ Str) := match spcK x with
  | some k => if isWat w[k]? && decide (args.length ≤ 1) then (match wTab.lookup m with
    | some z => if G.wt z then (noX (evsW f args w)).bind fun vs w => catX (callT G.T z (x :: vs) w) else .bad
    | none => .bad) else .bad
  | none => (noX (mt1 f x m args w)).bind fun v w => .ok (.inl v) w
theorem isDget_badO {G : Cn} {x m : Str} {px pa : Pos} {args : List Expr} {kws : List Keyword} {s : Sl} (h : (isDget G s (.Attribute (.Name x px) m pa) args kws).isSome = true) {n : Nat} {w : Wd} : ev n G s (.Name x px) w = .bad := by
  cases n with
  | zero => rfl
  | succ n =>
  obtain ⟨q, h⟩ := Option.isSome_iff_exists.mp h
  unfold isDget at h
  dsimp only at h
  split at h
  · split at h
    · simp only [Option.map_eq_some_iff] at h
      obtain ⟨⟨j, ps⟩, h1, _⟩ := h
      unfold isDct at h1
      dsimp only at h1
      show nameW G x s w = .bad
      unfold nameW
      cases hi : idx G.N x with
      | none => rw [hi] at h1; cases h1
      | some i =>
        rw [hi] at h1
        dsimp only at h1 ⊢
        split at h1
        · rename_i ds hs
          rw [hs]
          rfl
        · cases h1
    · cases h
  · cases h
/-- e's value, or the exception of the def that it calls last -/
def evX : Nat → Cn → Sl → Expr → Wd → R (RV ⊕ Str)
  | 0, _, _, _, _ => .bad
  | n + 1, G, s, e, w => match topK e with
    | .call x args => if G.dfn x then (noX (evsW (ev n G s) args w)).bind fun vs w => catX (callT G.T x vs w) else if isMk G x then (noX (evsW (ev n G s) args w)).bind fun vs w => mkX G vs w else (noX (ev (n + 1) G s e w)).bind fun v w => .ok (.inl v) w
    | .meth o m p args => if (isDget G s (.Attribute (.Name o p) m p) args []).isSome then (noX (ev (n + 1) G s e w)).bind fun v w => .ok (.inl v) w else (noX (ev n G s (.Name o p) w)).bind fun x w => metX G (ev n G s) x m args w
    | .ife t a b => (noX (ev n G s t w)).bind fun x w => match boolOf x with
      | some true => (evX n G s a w).bind fun r w => match r with
        | .inl y => (R.of ((frz y).map RV.val) w).bind fun v w => .ok (.inl v) w
        | .inr c => .ok (.inr c) w
      | some false => (evX n G s b w).bind fun r w => match r with
        | .inl y => (R.of ((frz y).map RV.val) w).bind fun v w => .ok (.inl v) w
        | .inr c => .ok (.inr c) w
      | none => .bad
    | .other => (noX (ev (n + 1) G s e w)).bind fun v w => .ok (.inl v) w
def cX (s : Sl) (k : RV → Wd → R Out) (r : RV ⊕ Str) (w : Wd) : R Out := match r with
  | .inl v => k v w
  | .inr c => .ok (.rs c s) w
def ctN (n : Nat) (G : Cn) (e : Expr) (s : Sl) (w : Wd) (m : R Out) : R Out := match m with
  | .exc c w' => if topB n G s e w then .ok (.rs c s) w' else .bad
  | m => m
theorem ctN_eq {G : Cn} {s : Sl} : ∀ (n : Nat) (e : Expr) (w : Wd) (k : RV → Wd → R Out), (∀ v w c w', k v w ≠ .exc c w') → ctN n G e s w ((ev n G s e w).bind k) = (evX n G s e w).bind (cX s k)
  | 0, e, w, k, hk => rfl
  | n + 1, e, w, k, hk => by
    have kk : ∀ {m : Nat} {e : Expr} {w w1 : Wd} {v : RV}, ctN m G e s w (k v w1) = k v w1 := fun {m e w w1 v} => by
      unfold ctN
      cases h : k v w1 with
      | exc c w2 => exact absurd h (hk _ _ _ _)
      | ok _ _ => rfl
      | bad => rfl
    have dflt : ∀ {e : Expr}, (∀ w, topB (n + 1) G s e w = false) → ctN (n + 1) G e s w ((ev (n + 1) G s e w).bind k) = ((noX (ev (n + 1) G s e w)).bind fun v w => (.ok (.inl v) w : R (RV ⊕ Str))).bind (cX s k) := fun {e} ht => by
      cases hv : ev (n + 1) G s e w with
      | ok v w1 => exact kk
      | exc c w1 =>
        show (if topB (n + 1) G s e w = true then R.ok (Out.rs c s) w1 else .bad) = .bad
        rw [ht, if_neg Bool.false_ne_true]
      | bad => rfl
    have unf : evX (n + 1) G s e w = (match topK e with
      | .call x args => if G.dfn x then (noX (evsW (ev n G s) args w)).bind fun vs w => catX (callT G.T x vs w) else if isMk G x then (noX (evsW (ev n G s) args w)).bind fun vs w => mkX G vs w else (noX (ev (n + 1) G s e w)).bind fun v w => .ok (.inl v) w
      | .meth o m p args => if (isDget G s (.Attribute (.Name o p) m p) args []).isSome then (noX (ev (n + 1) G s e w)).bind fun v w => .ok (.inl v) w else (noX (ev n G s (.Name o p) w)).bind fun x w => metX G (ev n G s) x m args w
      | .ife t a b => (noX (ev n G s t w)).bind fun x w => match boolOf x with
        | some true => (evX n G s a w).bind fun r w => match r with
          | .inl y => (R.of ((frz y).map RV.val) w).bind fun v w => .ok (.inl v) w
          | .inr c => .ok (.inr c) w
        | some false => (evX n G s b w).bind fun r w => match r with
          | .inl y => (R.of ((frz y).map RV.val) w).bind fun v w => .ok (.inl v) w
          | .inr c => .ok (.inr c) w
        | none => .bad
      | .other => (noX (ev (n + 1) G s e w)).bind fun v w => .ok (.inl v) w) := rfl
    cases hK : topK e with
    | other =>
      rw [unf, hK]
      exact dflt fun w => topK_other hK
    | call x args =>
      obtain ⟨p, q, rfl⟩ := topK_call hK
      rw [unf, hK]
      dsimp only
      cases hd : G.dfn x with
      | false =>
        rw [if_neg Bool.false_ne_true]
        cases hmk : isMk G x with
        | false =>
          rw [if_neg Bool.false_ne_true]
          exact dflt fun w => by show ((G.dfn x || isMk G x) && _) = false; rw [hd, hmk]; rfl
        | true =>
          rw [if_pos rfl]
          obtain ⟨⟨hbn, rfl⟩, hwt⟩ : (bltTab.lookup x = none ∧ x = "Watcher") ∧ G.wt "Watcher.__init__" = true := by
            have hmk2 := hmk
            unfold isMk at hmk2
            simp only [Bool.and_eq_true, decide_eq_true_eq, Option.isNone_iff_eq_none] at hmk2
            exact hmk2
          have e2 : ev (n + 1) G s (.Call (.Name "Watcher" p) args [] q) w = (evsW (ev n G s) args w).bind fun vs w => (match datS vs with
            | some ds => G.T "Watcher.__init__" ds w
            | none => .bad) := by
            show callW G (ev n G s) (.Name "Watcher" p) args [] w = _
            simp only [callW, hd, hbn, hwt, decide_true, Bool.and_true, if_true, Bool.false_eq_true, if_false]
            try rfl
          have e3 : topB (n + 1) G s (.Call (.Name "Watcher" p) args [] q) w = okR (evsW (ev n G s) args w) := by
            show ((G.dfn "Watcher" || isMk G "Watcher") && _) = _
            rw [hd, hmk]; rfl
          rw [e2]
          cases hv : evsW (ev n G s) args w with
          | bad => rfl
          | exc c w1 =>
            show (if topB (n + 1) G s (.Call (.Name "Watcher" p) args [] q) w = true then R.ok (Out.rs c s) w1 else .bad) = .bad
            rw [e3, hv]; rfl
          | ok vs w1 =>
            show ctN _ _ _ _ _ ((match datS vs with
              | some ds => G.T "Watcher.__init__" ds w1
              | none => .bad).bind k) = (mkX G vs w1).bind (cX s k)
            unfold mkX
            cases datS vs with
            | none => rfl
            | some ds =>
              dsimp only
              cases hc : G.T "Watcher.__init__" ds w1 with
              | ok v w2 => exact kk
              | bad => rfl
              | exc c w2 =>
                show (if topB (n + 1) G s (.Call (.Name "Watcher" p) args [] q) w = true then R.ok (Out.rs c s) w2 else .bad) = .ok (.rs c s) w2
                rw [e3, hv]; rfl
      | true =>
        rw [if_pos rfl]
        have e2 : ev (n + 1) G s (.Call (.Name x p) args [] q) w = (evsW (ev n G s) args w).bind fun vs w => callT G.T x vs w := by
          show (if G.dfn x = true then _ else _) = _
          rw [if_pos hd]
        have e3 : topB (n + 1) G s (.Call (.Name x p) args [] q) w = okR (evsW (ev n G s) args w) := by
          show ((G.dfn x || isMk G x) && _) = _
          rw [hd]; rfl
        rw [e2]
        cases hv : evsW (ev n G s) args w with
        | bad => rfl
        | exc c w1 =>
          show (if topB (n + 1) G s (.Call (.Name x p) args [] q) w = true then R.ok (Out.rs c s) w1 else .bad) = .bad
          rw [e3, hv]; rfl
        | ok vs w1 =>
          show ctN _ _ _ _ _ ((callT G.T x vs w1).bind k) = (catX (callT G.T x vs w1)).bind (cX s k)
          cases hc : callT G.T x vs w1 with
          | ok v w2 => exact kk
          | bad => rfl
          | exc c w2 =>
            show (if topB (n + 1) G s (.Call (.Name x p) args [] q) w = true then R.ok (Out.rs c s) w2 else .bad) = .ok (.rs c s) w2
            rw [e3, hv]; rfl
    | meth o m p args =>
      obtain ⟨pa, q, rfl⟩ := topK_meth hK
      rw [unf, hK]
      dsimp only
      have hpp : isDget G s (.Attribute (.Name o p) m p) args [] = isDget G s (.Attribute (.Name o p) m pa) args [] := rfl
      by_cases hdg : (isDget G s (.Attribute (.Name o p) m p) args []).isSome = true
      · rw [if_pos hdg]
        refine dflt fun w => ?_
        show (match ev n G s (.Name o p) w with
          | .ok x w1 => (spcK x).isSome && okR (evsW (ev n G s) args w1)
          | _ => false) = false
        rw [isDget_badO hdg]
      rw [if_neg hdg]
      have hdn : isDget G s (.Attribute (.Name o p) m pa) args [] = none := by
        rw [← hpp]
        cases hq : isDget G s (.Attribute (.Name o p) m p) args [] with
        | none => rfl
        | some z => rw [hq] at hdg; exact absurd rfl hdg
      have e2 : ev (n + 1) G s (.Call (.Attribute (.Name o p) m pa) args [] q) w = (ev n G s (.Name o p) w).bind fun x w => atX G (ev n G s) x m args w := by
        show (match isDget G s (.Attribute (.Name o p) m pa) args [] with
          | some (ps, a, b) => dgetW (ev n G s) ps a b w
          | none => callW G (ev n G s) (.Attribute (.Name o p) m pa) args [] w) = _
        rw [hdn]
        rfl
      have e3 : topB (n + 1) G s (.Call (.Attribute (.Name o p) m pa) args [] q) w = (match ev n G s (.Name o p) w with
        | .ok x w1 => (spcK x).isSome && okR (evsW (ev n G s) args w1)
        | _ => false) := rfl
      rw [e2]
      cases hv : ev n G s (.Name o p) w with
      | bad => rfl
      | exc c w1 =>
        show (if topB (n + 1) G s (.Call (.Attribute (.Name o p) m pa) args [] q) w = true then R.ok (Out.rs c s) w1 else .bad) = .bad
        rw [e3, hv]; rfl
      | ok x w1 =>
        rw [hv] at e3
        dsimp only at e3
        show ctN _ _ _ _ _ (R.bind (atX G (ev n G s) x m args w1) k) = (metX G (ev n G s) x m args w1).bind (cX s k)
        unfold metX atX
        cases hs : spcK x with
        | none =>
          rw [hs] at e3
          dsimp only
          generalize mt1 (ev n G s) x m args w1 = r
          cases r with
          | ok v w2 => exact kk
          | bad => rfl
          | exc c w2 =>
            show (if topB (n + 1) G s (.Call (.Attribute (.Name o p) m pa) args [] q) w = true then R.ok (Out.rs c s) w2 else .bad) = .bad
            rw [e3]; rfl
        | some kn =>
          rw [hs] at e3
          dsimp only
          by_cases hw : (isWat w1[kn]? && decide (args.length ≤ 1)) = true
          · rw [if_pos hw, if_pos hw]
            cases wTab.lookup m with
            | none => rfl
            | some z =>
              dsimp only
              by_cases hwt : G.wt z = true
              · rw [if_pos hwt, if_pos hwt]
                cases hv2 : evsW (ev n G s) args w1 with
                | bad => rfl
                | exc c w2 =>
                  show (if topB (n + 1) G s (.Call (.Attribute (.Name o p) m pa) args [] q) w = true then R.ok (Out.rs c s) w2 else .bad) = .bad
                  rw [e3, hv2]; rfl
                | ok vs w2 =>
                  show ctN _ _ _ _ _ ((callT G.T z (x :: vs) w2).bind k) = (catX (callT G.T z (x :: vs) w2)).bind (cX s k)
                  cases hc : callT G.T z (x :: vs) w2 with
                  | ok v w3 => exact kk
                  | bad => rfl
                  | exc c w3 =>
                    show (if topB (n + 1) G s (.Call (.Attribute (.Name o p) m pa) args [] q) w = true then R.ok (Out.rs c s) w3 else .bad) = .ok (.rs c s) w3
                    rw [e3, hv2]; rfl
              · rw [if_neg hwt, if_neg hwt]; rfl
          · rw [if_neg hw, if_neg hw]; rfl
    | ife t a b =>
      obtain ⟨q, rfl⟩ := topK_ife hK
      rw [unf, hK]
      dsimp only
      have e2 : ev (n + 1) G s (.IfExp t a b q) w = ifW (ev n G s) t a b w := rfl
      have e3 : topB (n + 1) G s (.IfExp t a b q) w = (match ev n G s t w with
        | .ok (.val (.bool true)) w => topB n G s a w
        | .ok (.val (.bool false)) w => topB n G s b w
        | _ => false) := rfl
      rw [e2]
      unfold ifW
      have br : ∀ (x : Expr) (w1 : Wd), topB (n + 1) G s (.IfExp t a b q) w = topB n G s x w1 → ctN (n + 1) G (.IfExp t a b q) s w (((ev n G s x w1).bind fun y w => R.of ((frz y).map RV.val) w).bind k) = ((evX n G s x w1).bind fun r w => match r with
          | .inl y => (R.of ((frz y).map RV.val) w).bind fun v w => (.ok (.inl v) w : R (RV ⊕ Str))
          | .inr c => .ok (.inr c) w).bind (cX s k) := fun x w1 ht => by
        have ih := ctN_eq (G := G) (s := s) n x w1 (fun y w => (R.of ((frz y).map RV.val) w).bind k) fun v w c w' => by
          cases (frz v).map RV.val with
          | none => intro z; cases z
          | some u => exact hk _ _ _ _
        have l1 : ctN (n + 1) G (.IfExp t a b q) s w (((ev n G s x w1).bind fun y w => R.of ((frz y).map RV.val) w).bind k) = ctN n G x s w1 ((ev n G s x w1).bind fun y w => (R.of ((frz y).map RV.val) w).bind k) := by
          unfold ctN
          rw [ht]
          cases ev n G s x w1 <;> rfl
        rw [l1, ih]
        cases evX n G s x w1 with
        | ok r w2 =>
          cases r with
          | inl y =>
            show (R.of ((frz y).map RV.val) w2).bind k = ((R.of ((frz y).map RV.val) w2).bind fun v w => (.ok (.inl v) w : R (RV ⊕ Str))).bind (cX s k)
            cases (frz y).map RV.val <;> rfl
          | inr c => rfl
        | exc c w2 => rfl
        | bad => rfl
      cases hv : ev n G s t w with
      | bad => rfl
      | exc c w1 =>
        show (if topB (n + 1) G s (.IfExp t a b q) w = true then R.ok (Out.rs c s) w1 else .bad) = .bad
        rw [e3, hv]; rfl
      | ok x w1 =>
        cases hb : boolOf x with
        | none =>
          show ctN _ _ _ _ _ ((match boolOf x with
            | some true => _
            | some false => _
            | none => R.bad).bind k) = (match boolOf x with
            | some true => _
            | some false => _
            | none => R.bad).bind (cX s k)
          rw [hb]; rfl
        | some z =>
          have ex : x = .val (.bool z) := by
            unfold boolOf at hb
            split at hb
            · cases hb; rfl
            · cases hb
          subst ex
          cases z with
          | true => exact br a w1 (by rw [e3, hv])
          | false => exact br b w1 (by rw [e3, hv])
theorem sim_mkX (g : SimG G GO) (vs : List RV) : Sim (mkX G vs) (mkX GO vs) := by
  unfold mkX
  cases datS vs with
  | none => exact Sim.bad
  | some ds => exact (g.T _ _).catX
theorem sim_metX (g : SimG G GO) (h : SimE f fO) (x : RV) (m : Str) (args : List Expr) : Sim (metX G f x m args) (metX GO fO x m args) := by
  unfold metX
  rw [g.wt]
  cases spcK x with
  | none =>
    dsimp only
    refine Sim.bind (Sim.noX (X := mt1 f x m args) (XO := mt1 fO x m args) ?_) fun v => Sim.pure _
    unfold mt1
    split
    · exact Sim.bind (h _) fun y => Sim.of _
    · exact Sim.bad
  | some k =>
    dsimp only
    cases wTab.lookup m with
    | none =>
      dsimp only
      refine Sim.rd (isWat_alike k) (F := fun b w => if (b && decide (args.length ≤ 1)) = true then .bad else .bad) (FO := fun b w => if (b && decide (args.length ≤ 1)) = true then .bad else .bad) fun b => ?_
      split <;> exact Sim.bad
    | some z =>
      dsimp only
      refine Sim.rd (isWat_alike k) (F := fun b w => if (b && decide (args.length ≤ 1)) = true then (if G.wt z = true then (noX (evsW f args w)).bind fun vs w => catX (callT G.T z (x :: vs) w) else .bad) else .bad) (FO := fun b w => if (b && decide (args.length ≤ 1)) = true then (if G.wt z = true then (noX (evsW fO args w)).bind fun vs w => catX (callT GO.T z (x :: vs) w) else .bad) else .bad) fun b => ?_
      split
      · split
        · exact Sim.bind (sim_evs h _).noX fun vs => (sim_callT g.T _ _).catX
        · exact Sim.bad
      · exact Sim.bad
theorem isMk_eq (g : SimG G GO) (x : Str) : isMk GO x = isMk G x := by
  unfold isMk
  rw [g.wt]
theorem sim_evX (g : SimG G GO) : ∀ (n : Nat) (s : Sl) (e : Expr), Sim (evX n G s e) (evX n GO s e)
  | 0, s, e => Sim.bad
  | n + 1, s, e => by
    have dflt : ∀ e, Sim (fun w => (noX (ev (n + 1) G s e w)).bind fun v w => (.ok (.inl v) w : R (RV ⊕ Str))) (fun w => (noX (ev (n + 1) GO s e w)).bind fun v w => .ok (.inl v) w) := fun e => Sim.bind (sim_ev g (n + 1) s e).noX fun v => Sim.pure _
    have br : ∀ x, Sim (fun w => (evX n G s x w).bind fun r w => match r with
          | .inl y => (R.of ((frz y).map RV.val) w).bind fun v w => (.ok (.inl v) w : R (RV ⊕ Str))
          | .inr c => .ok (.inr c) w) (fun w => (evX n GO s x w).bind fun r w => match r with
          | .inl y => (R.of ((frz y).map RV.val) w).bind fun v w => (.ok (.inl v) w : R (RV ⊕ Str))
          | .inr c => .ok (.inr c) w) := fun x => Sim.bind (sim_evX g n s x) fun r => by
      cases r with
      | inl y => exact Sim.bind (Sim.of _) fun v => Sim.pure _
      | inr c => exact Sim.pure _
    have un : ∀ H : Cn, evX (n + 1) H s e = fun w => (match topK e with
      | .call x args => if H.dfn x then (noX (evsW (ev n H s) args w)).bind fun vs w => catX (callT H.T x vs w) else if isMk H x then (noX (evsW (ev n H s) args w)).bind fun vs w => mkX H vs w else (noX (ev (n + 1) H s e w)).bind fun v w => .ok (.inl v) w
      | .meth o m p args => if (isDget H s (.Attribute (.Name o p) m p) args []).isSome then (noX (ev (n + 1) H s e w)).bind fun v w => .ok (.inl v) w else (noX (ev n H s (.Name o p) w)).bind fun x w => metX H (ev n H s) x m args w
      | .ife t a b => (noX (ev n H s t w)).bind fun x w => match boolOf x with
        | some true => (evX n H s a w).bind fun r w => match r with
          | .inl y => (R.of ((frz y).map RV.val) w).bind fun v w => .ok (.inl v) w
          | .inr c => .ok (.inr c) w
        | some false => (evX n H s b w).bind fun r w => match r with
          | .inl y => (R.of ((frz y).map RV.val) w).bind fun v w => .ok (.inl v) w
          | .inr c => .ok (.inr c) w
        | none => .bad
      | .other => (noX (ev (n + 1) H s e w)).bind fun v w => .ok (.inl v) w) := fun H => rfl
    rw [un G, un GO]
    cases topK e with
    | other => exact dflt e
    | call x args =>
      dsimp only
      rw [g.dfn]
      by_cases hd : G.dfn x = true
      · simp only [if_pos hd]
        exact Sim.bind (sim_evs (fun e => sim_ev g n s e) args).noX fun vs => (sim_callT g.T x vs).catX
      · simp only [if_neg hd]
        rw [isMk_eq g]
        by_cases hm : isMk G x = true
        · simp only [if_pos hm]
          exact Sim.bind (sim_evs (fun e => sim_ev g n s e) args).noX fun vs => sim_mkX g vs
        · simp only [if_neg hm]
          exact dflt e
    | meth o m p args =>
      dsimp only
      rw [isDget_eq g]
      by_cases hd : (isDget G s (.Attribute (.Name o p) m p) args []).isSome = true
      · simp only [if_pos hd]
        exact dflt e
      · simp only [if_neg hd]
        exact Sim.bind (sim_ev g n s _).noX fun x => sim_metX g (fun e => sim_ev g n s e) x m args
    | ife t a b =>
      refine Sim.bind (sim_ev g n s t).noX fun x => ?_
      cases boolOf x with
      | none => exact Sim.bad
      | some z => cases z with
        | true => exact br a
        | false => exact br b
theorem sim_ctch (g : SimG G GO) {e : Expr} {s : Sl} {k kO : RV → Wd → R Out} (h1 : ∀ v w c w', k v w ≠ .exc c w') (h2 : ∀ v w c w', kO v w ≠ .exc c w') (hk : ∀ v, Sim (k v) (kO v)) : Sim (fun w => ctch G e s w ((ev evF G s e w).bind k)) (fun w => ctch GO e s w ((ev evF GO s e w).bind kO)) := by
  have e1 : (fun w => ctch G e s w ((ev evF G s e w).bind k)) = fun w => (evX evF G s e w).bind (cX s k) := funext fun w => ctN_eq evF e w k h1
  have e2 : (fun w => ctch GO e s w ((ev evF GO s e w).bind kO)) = fun w => (evX evF GO s e w).bind (cX s kO) := funext fun w => ctN_eq evF e w kO h2
  rw [e1, e2]
  refine Sim.bind (sim_evX g evF s e) fun r => ?_
  cases r with
  | inl v => exact hk v
  | inr c => exact Sim.pure _
theorem sim_ctch0 (g : SimG G GO) {e : Expr} {s : Sl} {X XO : Wd → R Out} (h : Sim X XO) (h1 : ∀ w c w', X w = .exc c w' → topB evF G s e w = false) (h2 : ∀ w c w', XO w = .exc c w' → topB evF GO s e w = false) : Sim (fun w => ctch G e s w (X w)) (fun w => ctch GO e s w (XO w)) := by
  have e1 : (fun w => ctch G e s w (X w)) = fun w => noX (X w) := funext fun w => by
    unfold ctch
    cases hx : X w with
    | exc c w' => show (if topB evF G s e w = true then _ else _) = _; rw [h1 _ _ _ hx]; rfl
    | ok _ _ => rfl
    | bad => rfl
  have e2 : (fun w => ctch GO e s w (XO w)) = fun w => noX (XO w) := funext fun w => by
    unfold ctch
    cases hx : XO w with
    | exc c w' => show (if topB evF GO s e w = true then _ else _) = _; rw [h2 _ _ _ hx]; rfl
    | ok _ _ => rfl
    | bad => rfl
  rw [e1, e2]
  exact h.noX
theorem ctch_ok {H : Cn} {e : Expr} {s : Sl} {o : Out} : (fun w => ctch H e s w (.ok o w)) = fun w => .ok o w := rfl
theorem sim_retC (g : SimG G GO) (e : Expr) (s : Sl) : Sim (fun w => ctch G e s w (retW G (ev evF G s) e s w)) (fun w => ctch GO e s w (retW GO (ev evF GO s) e s w)) := by
  unfold retW
  rw [isOwn_eq g]
  cases isOwn G e s with
  | some q => exact Sim.pure _
  | none =>
    refine sim_ctch g (k := fun v w => match v with
      | .bor _ => .bad
      | v => .ok (.ret v) w) (kO := fun v w => match v with
      | .bor _ => .bad
      | v => .ok (.ret v) w) (fun v w c w' z => ?_) (fun v w c w' z => ?_) fun v => ?_
    · cases v <;> cases z
    · cases v <;> cases z
    · cases v with
      | bor d => exact Sim.bad
      | _ => exact Sim.pure _
theorem asgN_no {H : Cn} {i : Nat} {x : Str} {v : RV} {s : Sl} {w w' : Wd} {c : Str} : (asgN H i x v s w).bind (fun s w => (.ok (.nxt s) w : R Out)) ≠ .exc c w' := by
  intro z
  unfold asgN at z
  cases v with
  | val d => cases z
  | bor d => cases z
  | own d =>
    dsimp only at z
    split at z <;> cases z
theorem sim_asgC (g : SimG G GO) (t e : Expr) (s : Sl) : Sim (fun w => ctchN G t e s w ((asgW G (ev evF G) t e s w).bind fun s w => .ok (.nxt s) w)) (fun w => ctchN GO t e s w ((asgW GO (ev evF GO) t e s w).bind fun s w => .ok (.nxt s) w)) := by
  have ie : SimS (ev evF G) (ev evF GO) := sim_ev g evF
  cases t with
  | Name x p =>
    show Sim (fun w => ctch G e s w ((asgW G (ev evF G) (.Name x p) e s w).bind fun s w => .ok (.nxt s) w)) (fun w => ctch GO e s w ((asgW GO (ev evF GO) (.Name x p) e s w).bind fun s w => .ok (.nxt s) w))
    unfold asgW
    dsimp only
    rw [g.N]
    cases idx G.N x with
    | none => exact Sim.bad
    | some i =>
      dsimp only
      by_cases hn : isDnew e = true
      · simp only [if_pos hn]
        cases noDct s with
        | true => exact Sim.pure _
        | false => exact Sim.bad
      simp only [if_neg hn]
      rw [isDcomp_eq g]
      by_cases hdc : isDcomp G e s = true
      · simp only [if_pos hdc]
        exact Sim.bad
      simp only [if_neg hdc]
      rw [isOwn_eq g]
      cases isOwn G e s with
      | some q => exact Sim.pure _
      | none =>
        have as : ∀ (H : Cn), (fun w => ctch H e s w (((ev evF H s e w).bind fun v w => asgN H i x v s w).bind fun s w => .ok (.nxt s) w)) = fun w => ctch H e s w ((ev evF H s e w).bind fun v w => (asgN H i x v s w).bind fun s w => .ok (.nxt s) w) := fun H => funext fun w => by cases ev evF H s e w <;> rfl
        show Sim (fun w => ctch G e s w (((ev evF G s e w).bind fun v w => asgN G i x v s w).bind fun s w => .ok (.nxt s) w)) (fun w => ctch GO e s w (((ev evF GO s e w).bind fun v w => asgN GO i x v s w).bind fun s w => .ok (.nxt s) w))
        rw [as G, as GO]
        exact sim_ctch g (fun _ _ _ _ => asgN_no) (fun _ _ _ _ => asgN_no) fun v => Sim.bind (sim_asgN g i x v s) fun s => Sim.pure _
  | _ => exact Sim.bind (sim_asg g ie _ e s) fun s => Sim.pure _
theorem isMut_top {H : Cn} {e : Expr} {s : Sl} {q : Str × Str × Expr} (h : isMut e = some q) (w : Wd) (c : Str) (w' : Wd) (hx : (exprW H (ev evF H) e s w).bind (fun s w => (.ok (.nxt s) w : R Out)) = .exc c w') : topB evF H s e w = false := by
  unfold exprW at hx
  rw [h] at hx
  obtain ⟨x, m, a⟩ := q
  unfold isMut at h
  split at h
  · rename_i x' px m' pa a' pc
    split at h
    · cases h
      dsimp only at hx
      unfold mutW at hx
      cases hi : idx H.N x with
      | none => rw [hi] at hx; cases hx
      | some i =>
        rw [hi] at hx
        dsimp only at hx
        split at hx
        · rename_i ds hs
          have e1 : topB evF H s (.Call (.Attribute (.Name x px) m pa) [a] [] pc) w = (match ev 39 H s (.Name x px) w with
            | .ok y w1 => (spcK y).isSome && okR (evsW (ev 39 H s) [a] w1)
            | _ => false) := rfl
          have e2 : ev 39 H s (.Name x px) w = nameW H x s w := rfl
          rw [e1, e2]
          unfold nameW
          rw [hi]
          dsimp only
          rw [hs]
          rfl
        · cases hx
    · cases h
  · cases h
theorem isApp_top {H : Cn} {e : Expr} {s : Sl} {q : Expr × Expr} (h : isApp e = some q) (w : Wd) : topB evF H s e w = false := by
  unfold isApp at h
  split at h
  · rfl
  · cases h
theorem sim_exprC (g : SimG G GO) (e : Expr) (s : Sl) : Sim (fun w => ctch G e s w ((exprW G (ev evF G) e s w).bind fun s w => .ok (.nxt s) w)) (fun w => ctch GO e s w ((exprW GO (ev evF GO) e s w).bind fun s w => .ok (.nxt s) w)) := by
  have ie : SimS (ev evF G) (ev evF GO) := sim_ev g evF
  cases hm : isMut e with
  | some q => exact sim_ctch0 g (Sim.bind (sim_expr g ie e s) fun s => Sim.pure _) (isMut_top hm) (isMut_top hm)
  | none =>
   cases ha : isApp e with
   | some q => exact sim_ctch0 g (Sim.bind (sim_expr g ie e s) fun s => Sim.pure _) (fun w _ _ _ => isApp_top ha w) (fun w _ _ _ => isApp_top ha w)
   | none =>
    have as : ∀ (H : Cn), (fun w => ctch H e s w ((exprW H (ev evF H) e s w).bind fun s w => .ok (.nxt s) w)) = fun w => ctch H e s w ((ev evF H s e w).bind fun _ w => .ok (.nxt s) w) := fun H => funext fun w => by
      unfold exprW
      rw [hm]
      dsimp only
      rw [ha]
      dsimp only
      cases ev evF H s e w <;> rfl
    rw [as G, as GO]
    exact sim_ctch g (fun _ _ _ _ z => by cases z) (fun _ _ _ _ z => by cases z) fun v => Sim.pure _
theorem sim_tryW (g : SimG G GO) {x n m : Str} {X XO : Wd → R Out} (h : Sim X XO) : Sim (fun w => tryW G x n m (X w)) (fun w => tryW GO x n m (XO w)) := by
  have e : ∀ (H : Cn) (r : R Out), tryW H x n m r = r.bind fun o w => match o with
    | .rs c s => (match H.xs c, idx H.N n, idx H.N m with
      | some l, some i, some j => if l.contains x && !decide (i = j) then .ok (.nxt ((s.set j (some (.val (exd c)))).set i none)) w else .bad
      | _, _, _ => .bad)
    | o => .ok o w := fun H r => by
    cases r with
    | ok o w => cases o <;> rfl
    | exc c w => rfl
    | bad => rfl
  simp only [e]
  refine Sim.bind h fun o => ?_
  rw [g.xs, g.N]
  cases o with
  | rs c s =>
    dsimp only
    split
    · split
      · exact Sim.pure _
      · exact Sim.bad
    · exact Sim.bad
  | _ => exact Sim.pure _
theorem sim_raise (g : SimG G GO) (e c : Option Expr) (s : Sl) : Sim (raisW G e c s) (raisW GO e c s) := by
  unfold raisW
  rw [g.xs]
  split
  · split
    · exact Sim.pure _
    · exact Sim.bad
  · exact Sim.bad
theorem sim_ex (g : SimG G GO) : ∀ (n : Nat) (st : Stmt) (s : Sl), Sim (ex n G st s) (ex n GO st s)
  := by
  intro n
  induction n with
  | zero => exact fun st s => Sim.bad
  | succ n ih =>
    intro st s
    have ie : SimS (ev evF G) (ev evF GO) := sim_ev g evF
    cases st with
    | Assign ts e _ =>
      match ts with
      | [t] => exact sim_asgC g t e s
      | [] => exact Sim.bad
      | _ :: _ :: _ => exact Sim.bad
    | AugAssign t op e _ => exact Sim.bind (sim_aug g ie t op e s) fun s => Sim.pure _
    | If c a b _ =>
      refine Sim.bind (sim_tst (ie s) c) fun x => ?_
      cases x
      · exact sim_execs ih b s
      · exact sim_execs ih a s
    | For tg iter body orelse _ =>
      cases orelse with
      | cons a r => exact Sim.bad
      | nil =>
        show Sim (fun w => (iterW false G (ev evF G (frzN G iter s)) iter w).bind _) (fun w => (iterW false GO (ev evF GO (frzN GO iter s)) iter w).bind _)
        rw [frzN_eq g]
        refine Sim.bind (sim_iter g (ie _) _ _) fun ds => sim_for (fun d s => ?_) ds _
        rw [g.N]
        split
        · exact sim_execs ih body _
        · exact Sim.bad
    | While c body orelse pos =>
      cases orelse with
      | cons a r => exact Sim.bad
      | nil =>
        exact sim_exw ie ih
    | Return e _ =>
      cases e with
      | none => exact Sim.pure _
      | some e => exact sim_retC g e s
    | Expr e _ => exact sim_exprC g e s
    | Raise e c _ => exact sim_raise g e c s
    | Try body hs orelse fin pos =>
      show Sim (fun w => match clause hs, orelse, fin with
        | some (x, n', m), [], [] => if (G.xs x).isSome then tryW G x n' m (execs (ex n G) body s w) else .bad
        | _, _, _ => .bad) (fun w => match clause hs, orelse, fin with
        | some (x, n', m), [], [] => if (GO.xs x).isSome then tryW GO x n' m (execs (ex n GO) body s w) else .bad
        | _, _, _ => .bad)
      rw [g.xs]
      split
      · split
        · exact sim_tryW g (sim_execs ih body s)
        · exact Sim.bad
      · exact Sim.bad
    | Pass _ => exact Sim.pure _
    | Break _ => exact Sim.pure _
    | Continue _ => exact Sim.pure _
    | _ => exact Sim.bad
theorem sim_outV {X XO : Wd → R Out} (h : Sim X XO) : Sim (fun w => outV (X w)) (fun w => outV (XO w)) := by
  have e : ∀ m : R Out, outV m = (noX m).bind fun o w => match o with
    | .ret v => .ok v w
    | .nxt _ => .ok (.val .none) w
    | .rs c _ => .exc c w
    | _ => .bad := fun m => by
    cases m with
    | ok o w => cases o <;> rfl
    | exc c w => rfl
    | bad => rfl
  simp only [e]
  refine Sim.bind h.noX fun o => ?_
  cases o with
  | ret v => exact Sim.pure _
  | nxt s => exact Sim.pure _
  | rs c s => exact Sim.exc _
  | _ => exact Sim.bad
end
/-- the start and a draw by the oracle -/
def startO (vs : List D) (w : Wd) : R RV := match vs, w with
  | [.dict [(.int (.ofNat 0), .none)]], [.orc o] => .ok (.val (spc 1)) [.orc o, .scr []]
  | _, _ => .bad
def drawO (vs : List D) (w : Wd) : R RV := match vs with
  | [.dict [(.int (.ofNat 1), .none)], .int limit] => (match w with
    | .orc o :: .scr [] :: r => if decide (0 < limit) && divOk limit then .ok (.val (.int (o 0 limit))) (.orc (Orc.tl o) :: .scr [] :: r) else .bad
    | _ => .bad)
  | _ => .bad
def Pg.TO (P : Pg) : Nat → Tab
  | 0, _, _, _ => .bad
  | n + 1, f, vs, w => match P.fs.lookup f with
    | none => (match P.ws.lookup f with
      | none => .bad
      | some fd => watT (P.TO n) fd.kd vs w)
    | some fd => if vs.length = fd.np then (match fd.kd with
      | .start => startO vs w
      | .draw => drawO vs w
      | .body => outV (execs (ex exF ⟨P.TO n, fun x => (P.fs.lookup x).isSome, fun x => P.cs.lookup x, fd.N, fd.mt, fun x => P.xs.lookup x, fun x => (P.ws.lookup x).isSome⟩) (L2.defBody fd.st) (slotsOf fd.N vs) w)
      | _ => .bad) else .bad
theorem sim_start (vs : List D) : Sim (startT vs) (startO vs) := by
  intro p w g Q QO E EO hq he h
  have h0 := h o0 ok_o0
  unfold startO at h0
  split at h0
  · rename_i o hw
    cases p with
    | some r => cases hw
    | none =>
      obtain ⟨ns, rfl, hl⟩ := g
      have e : startT [.dict [(.int (.ofNat 0), .none)]] [.scr ns] = .ok (.val (spc 1)) [.scr ns, .drw (if ns.isEmpty then [0] else ns) 0] := by
        show (if ns.length ≤ 1000 then R.ok (RV.val (spc 1)) [.scr ns, .drw (if ns.isEmpty then [0] else ns) 0] else .bad) = _
        rw [if_pos hl]
      rw [e]
      refine hq (some []) _ _ ⟨ns, _, 0, rfl, ?_, ?_⟩ fun o ho => h o ho
      · cases ns <;> simp
      · cases ns with
        | nil => decide
        | cons a r => exact hl
  · exact h0.elim
theorem drawV_ok {ms : List Int} {c l : Int} (hm : ms ≠ []) (hl : 0 < l) : ∃ v ms', drawV ms c l = some (v, ms') ∧ 0 ≤ v ∧ v < l ∧ ms'.length = ms.length := by
  have hp : (0 : Int) < ms.length := by
    cases ms with
    | nil => exact absurd rfl hm
    | cons _ _ => simp
  have m0 := Int.fmod_nonneg_of_pos c hp
  have m1 := Int.fmod_lt_of_pos c hp
  unfold drawV
  have hlt : (c.fmod ms.length).toNat < ms.length := by omega
  rw [List.getElem?_eq_getElem hlt]
  dsimp only
  split
  · exact ⟨_, _, rfl, Int.fmod_nonneg_of_pos _ hl, Int.fmod_lt_of_pos _ hl, by simp⟩
  · exact ⟨_, _, rfl, Int.fmod_nonneg_of_pos _ hl, Int.fmod_lt_of_pos _ hl, rfl⟩
theorem sim_draw (vs : List D) : Sim (drawT vs) (drawO vs) := by
  intro p w g Q QO E EO hq he h
  have h0 := h o0 ok_o0
  unfold drawO at h0
  split at h0
  rotate_left
  · exact h0.elim
  rename_i limit
  cases p with
  | none => exact h0.elim
  | some r =>
    obtain ⟨ns, ms, c, rfl, hm, hl⟩ := g
    have h0 : WP (if decide (0 < limit) && divOk limit then R.ok (.val (.int (o0 0 limit))) (.orc (Orc.tl o0) :: .scr [] :: r) else .bad) QO EO := h0
    split at h0
    rotate_left
    · exact h0.elim
    rename_i hc
    have hc' := hc
    simp only [Bool.and_eq_true, decide_eq_true_eq] at hc
    obtain ⟨v, ms', e, v0, v1, ml⟩ := drawV_ok (c := c + 1) hm hc.1
    have e2 : drawT [.dict [(.int (.ofNat 1), .none)], .int limit] (.scr ns :: .drw ms c :: r) = .ok (.val (.int v)) (.scr ns :: .drw ms' (c + 1) :: r) := by
      have he : ms.isEmpty = false := by cases ms; exact absurd rfl hm; rfl
      show (if divOk limit && !ms.isEmpty && decide (ms.length ≤ 1000) then (match drawV ms (c + 1) limit with
        | some (v, ns') => R.ok (RV.val (.int v)) (.scr ns :: .drw ns' (c + 1) :: r)
        | none => .bad) else .bad) = _
      rw [e, he, hc.2, decide_eq_true hl]
      rfl
    rw [e2]
    refine hq (some r) _ _ ⟨ns, ms', c + 1, rfl, fun z => ?_, by omega⟩ fun o ho => ?_
    · rw [z] at ml
      cases ms with
      | nil => exact hm rfl
      | cons _ _ => cases ml
    · have := h (Orc.cons limit v o) (okO_cons ho v0 v1)
      have e3 : drawO [.dict [(.int (.ofNat 1), .none)], .int limit] (ow (some r) (Orc.cons limit v o)) = .ok (.val (.int v)) (.orc o :: .scr [] :: r) := by
        show (if decide (0 < limit) && divOk limit then R.ok (RV.val (.int (if limit = limit then v else 0))) (.orc o :: .scr [] :: r) else .bad) = _
        rw [if_pos hc', if_pos rfl]
      rw [e3] at this
      exact this
theorem T_none {P : Pg} {n : Nat} {x : Str} {vs : List D} (hx : P.fs.lookup x = none) : P.T (n + 1) x vs = fun w => (match P.ws.lookup x with
      | none => .bad
      | some fd => watT (P.T n) fd.kd vs w) := by
  funext w
  show (match P.fs.lookup x with
    | none => (match P.ws.lookup x with
      | none => R.bad
      | some fd => watT (P.T n) fd.kd vs w)
    | some fd => _) = _
  rw [hx]
theorem TO_none {P : Pg} {n : Nat} {x : Str} {vs : List D} (hx : P.fs.lookup x = none) : P.TO (n + 1) x vs = fun w => (match P.ws.lookup x with
      | none => .bad
      | some fd => watT (P.TO n) fd.kd vs w) := by
  funext w
  show (match P.fs.lookup x with
    | none => (match P.ws.lookup x with
      | none => R.bad
      | some fd => watT (P.TO n) fd.kd vs w)
    | some fd => _) = _
  rw [hx]
/-- the watcher's fields -/
def watF (w : Wd) (k : Nat) : Option (Int × Str × Int × List Int) := match w[k]? with | some (.wat sz nm nb ns) => some (sz, nm, nb, ns) | _ => none
theorem watF_some {w : Wd} {k : Nat} {sz nb : Int} {nm : Str} {ns : List Int} (h : w[k]? = some (.wat sz nm nb ns)) : watF w k = some (sz, nm, nb, ns) := by unfold watF; rw [h]
theorem watM {α : Type} (w : Wd) (k : Nat) (F : Int → Str → Int → List Int → R α) : (match w[k]? with | some (.wat sz nm nb ns) => F sz nm nb ns | _ => .bad) = (match watF w k with | some (sz, nm, nb, ns) => F sz nm nb ns | none => .bad) := by
  unfold watF
  cases hw : w[k]? with
  | none => rfl
  | some wo => cases wo <;> rfl
theorem Sim.watR {α : Type} (k : Nat) {F FO : Int → Str → Int → List Int → Wd → R α} (h : ∀ sz nm nb ns, Sim (F sz nm nb ns) (FO sz nm nb ns)) : Sim (fun w => match w[k]? with | some (.wat sz nm nb ns) => F sz nm nb ns w | _ => .bad) (fun w => match w[k]? with | some (.wat sz nm nb ns) => FO sz nm nb ns w | _ => .bad) := by
  have e : ∀ F : Int → Str → Int → List Int → Wd → R α, (fun (w : Wd) => match w[k]? with | some (.wat sz nm nb ns) => F sz nm nb ns w | _ => .bad) = fun w => (fun (o : Option (Int × Str × Int × List Int)) (w : Wd) => match o with | some (sz, nm, nb, ns) => F sz nm nb ns w | none => .bad) (watF w k) w := fun F => funext fun w => watM w k fun sz nm nb ns => F sz nm nb ns w
  rw [e F, e FO]
  refine Sim.rd (h := fun w => watF w k) (wat_alike k) (F := fun (o : Option (Int × Str × Int × List Int)) (w : Wd) => match o with | some (sz, nm, nb, ns) => F sz nm nb ns w | none => .bad) (FO := fun (o : Option (Int × Str × Int × List Int)) (w : Wd) => match o with | some (sz, nm, nb, ns) => FO sz nm nb ns w | none => .bad) fun o => ?_
  cases o with
  | none => exact Sim.bad
  | some q =>
    obtain ⟨sz, nm, nb, ns⟩ := q
    exact h sz nm nb ns
/-- .. and then changed -/
theorem Sim.watS {α : Type} (k : Nat) {F FO : Int → Str → Int → List Int → Option (WO × (Wd → R α) × (Wd → R α))} (h : ∀ sz nm nb ns wo X XO, F sz nm nb ns = some (wo, X, XO) → Sim X XO) :
    Sim (fun w => match w[k]? with | some (.wat sz nm nb ns) => (match F sz nm nb ns with | some (wo, X, _) => X (w.set k wo) | none => .bad) | _ => .bad) (fun w => match w[k]? with | some (.wat sz nm nb ns) => (match F sz nm nb ns with | some (wo, _, XO) => XO (w.set k wo) | none => .bad) | _ => .bad) := by
  have e : ∀ F : Int → Str → Int → List Int → Option (WO × (Wd → R α)), (fun (w : Wd) => match w[k]? with | some (.wat sz nm nb ns) => (match F sz nm nb ns with | some (wo, X) => X (w.set k wo) | none => .bad) | _ => .bad) = (fun (w : Wd) => match w[k]? with | some (.wat sz nm nb ns) => (match F sz nm nb ns with | some (wo, X) => if isWat w[k]? then X (w.set k wo) else .bad | none => .bad) | _ => .bad) := fun F => funext fun w => by
    cases hw : w[k]? with
    | none => rfl
    | some wo =>
      cases wo with
      | wat sz nm nb ns =>
        dsimp only
        cases F sz nm nb ns with
        | none => rfl
        | some q => rfl
      | _ => rfl
  have e1 := e fun sz nm nb ns => (F sz nm nb ns).map fun q => (q.1, q.2.1)
  have e2 := e fun sz nm nb ns => (F sz nm nb ns).map fun q => (q.1, q.2.2)
  have g1 : (fun (w : Wd) => match w[k]? with | some (.wat sz nm nb ns) => (match F sz nm nb ns with | some (wo, X, _) => X (w.set k wo) | none => .bad) | _ => .bad) = (fun (w : Wd) => match w[k]? with | some (.wat sz nm nb ns) => (match (F sz nm nb ns).map fun q => (q.1, q.2.1) with | some (wo, X) => X (w.set k wo) | none => .bad) | _ => .bad) := funext fun w => by
    cases hw : w[k]? with
    | none => rfl
    | some wo =>
      cases wo with
      | wat sz nm nb ns => dsimp only; cases F sz nm nb ns <;> rfl
      | _ => rfl
  have g2 : (fun (w : Wd) => match w[k]? with | some (.wat sz nm nb ns) => (match F sz nm nb ns with | some (wo, _, XO) => XO (w.set k wo) | none => .bad) | _ => .bad) = (fun (w : Wd) => match w[k]? with | some (.wat sz nm nb ns) => (match (F sz nm nb ns).map fun q => (q.1, q.2.2) with | some (wo, X) => X (w.set k wo) | none => .bad) | _ => .bad) := funext fun w => by
    cases hw : w[k]? with
    | none => rfl
    | some wo =>
      cases wo with
      | wat sz nm nb ns => dsimp only; cases F sz nm nb ns <;> rfl
      | _ => rfl
  rw [g1, g2, e1, e2]
  refine Sim.watR k (F := fun sz nm nb ns w => match (F sz nm nb ns).map fun q => (q.1, q.2.1) with | some (wo, X) => if isWat w[k]? then X (w.set k wo) else .bad | none => .bad) (FO := fun sz nm nb ns w => match (F sz nm nb ns).map fun q => (q.1, q.2.2) with | some (wo, X) => if isWat w[k]? then X (w.set k wo) else .bad | none => .bad) fun sz nm nb ns => ?_
  cases hF : F sz nm nb ns with
  | none => exact Sim.bad
  | some q =>
    obtain ⟨wo, X, XO⟩ := q
    exact Sim.setW (h _ _ _ _ _ _ _ hF) k wo
/-- the watcher's doers -/
theorem sim_wat {T TO : Tab} (h : ∀ g vs, Sim (T g vs) (TO g vs)) (kd : Kd) (vs : List D) : Sim (watT T kd vs) (watT TO kd vs) := by
  unfold watT
  split
  · rename_i a b
    refine Sim.bind (h _ _) fun _ => Sim.bind (h _ _) fun _ => ?_
    unfold iniV
    split
    · exact Sim.appW _
    · exact Sim.bad
  · rename_i s v
    refine Sim.bind (h _ _) fun _ => ?_
    unfold pshV
    split
    · rename_i k i _
      have c : ∀ T : Tab, (fun (w : Wd) => match w[k]? with
        | some (.wat sz nm nb ns) => if ns.length < 1000 then T "Watcher.result" [s] (w.set k (.wat sz nm nb (ns ++ [i]))) else .bad
        | _ => .bad) = fun (w : Wd) => match w[k]? with
        | some (.wat sz nm nb ns) => (fun sz nm nb (ns : List Int) w => if ns.length < 1000 then (if isWat w[k]? then T "Watcher.result" [s] (w.set k (.wat sz nm nb (ns ++ [i]))) else .bad : R RV) else .bad) sz nm nb ns w
        | _ => .bad := fun T => funext fun w => by
        cases hw : w[k]? with
        | none => rfl
        | some wo =>
          cases wo with
          | wat sz nm nb ns => dsimp only; rw [hw]; rfl
          | _ => rfl
      suffices hs : Sim (fun (w : Wd) => match w[k]? with
        | some (.wat sz nm nb ns) => if ns.length < 1000 then T "Watcher.result" [s] (w.set k (.wat sz nm nb (ns ++ [i]))) else .bad
        | _ => .bad) (fun (w : Wd) => match w[k]? with
        | some (.wat sz nm nb ns) => if ns.length < 1000 then TO "Watcher.result" [s] (w.set k (.wat sz nm nb (ns ++ [i]))) else .bad
        | _ => .bad) from hs
      rw [c T, c TO]
      refine Sim.watR k fun sz nm nb ns => ?_
      split
      · exact Sim.setW (h _ _) k _
      · exact Sim.bad
    · exact Sim.bad
  · rename_i s
    cases spD s with
    | none => exact Sim.bad
    | some k =>
      refine Sim.watR k (F := fun sz nm nb ns w => if (ns.length : Int) < sz then R.ok (RV.val .none) w else T "result_of" [.tuple [.str nm, .int nb], .list (cut (ns.map .int) (some (-sz)) none)] w) (FO := fun sz nm nb ns w => if (ns.length : Int) < sz then R.ok (RV.val .none) w else TO "result_of" [.tuple [.str nm, .int nb], .list (cut (ns.map .int) (some (-sz)) none)] w) fun sz nm nb ns => ?_
      split
      · exact Sim.pure _
      · exact h _ _
  · rename_i s r
    cases spD s with
    | none => exact Sim.bad
    | some k =>
      refine Sim.watR k (F := fun sz _ _ _ w => (T "check_rule" [r, .int sz] w).bind fun _ w => chgV T s k r w) (FO := fun sz _ _ _ w => (TO "check_rule" [r, .int sz] w).bind fun _ w => chgV TO s k r w) fun sz nm nb ns => ?_
      refine Sim.bind (h _ _) fun _ => ?_
      unfold chgV
      split
      · rename_i nm nb
        have l := Sim.watS k (F := fun sz _ _ ns => some (WO.wat sz nm nb ns, T "Watcher.result" [s], TO "Watcher.result" [s])) (FO := fun _ _ _ _ => none) fun sz nm nb ns wo X XO hF => by
          cases hF; exact h _ _
        exact l
      · exact Sim.bad
  · rename_i s
    cases spD s with
    | none => exact Sim.bad
    | some k => exact Sim.watR k (F := fun sz _ _ ns w => .ok (RV.own (cut (ns.map .int) (some (-sz)) none)) w) (FO := fun sz _ _ ns w => .ok (RV.own (cut (ns.map .int) (some (-sz)) none)) w) fun sz nm nb ns => Sim.pure _
  · rename_i s
    cases spD s with
    | none => exact Sim.bad
    | some k =>
      show Sim (fun w => undV k w) (fun w => undV k w)
      have c : (fun w => undV k w) = fun (w : Wd) => match w[k]? with
        | some (.wat sz nm nb ns) => (fun sz nm nb (ns : List Int) w => match ns.getLast? with
          | some i => (if isWat w[k]? then (fun w => .ok (.val (.int i)) w) (w.set k (.wat sz nm nb ns.dropLast)) else .bad : R RV)
          | none => .exc "NotFound" w) sz nm nb ns w
        | _ => .bad := funext fun w => by
        unfold undV
        cases hw : w[k]? with
        | none => rfl
        | some wo =>
          cases wo with
          | wat sz nm nb ns =>
            dsimp only
            cases ns.getLast? with
            | none => rfl
            | some i => dsimp only; rw [hw]; rfl
          | _ => rfl
      rw [c]
      refine Sim.watR k fun sz nm nb ns => ?_
      cases ns.getLast? with
      | none => exact Sim.exc _
      | some i => exact Sim.setW (Sim.pure (RV.val (.int i))) k _
  · rename_i s
    cases spD s with
    | none => exact Sim.bad
    | some k => exact Sim.watR k (F := fun _ _ _ ns w => .ok (RV.val (.int ns.length)) w) (FO := fun _ _ _ ns w => .ok (RV.val (.int ns.length)) w) fun sz nm nb ns => Sim.pure _
  · exact Sim.bad
theorem T_some {P : Pg} {n : Nat} {x : Str} {vs : List D} {fd : FD} (hx : P.fs.lookup x = some fd) : P.T (n + 1) x vs = fun w => if vs.length = fd.np then (match fd.kd with
      | .start => startT vs w
      | .draw => drawT vs w
      | .body => outV (execs (ex exF ⟨P.T n, fun x => (P.fs.lookup x).isSome, fun x => P.cs.lookup x, fd.N, fd.mt, fun x => P.xs.lookup x, fun x => (P.ws.lookup x).isSome⟩) (L2.defBody fd.st) (slotsOf fd.N vs) w)
      | _ => .bad) else .bad := by
  funext w
  show (match P.fs.lookup x with
    | none => (match P.ws.lookup x with
      | none => R.bad
      | some fd => watT (P.T n) fd.kd vs w)
    | some fd => _) = _
  rw [hx]
  try rfl
theorem TO_some {P : Pg} {n : Nat} {x : Str} {vs : List D} {fd : FD} (hx : P.fs.lookup x = some fd) : P.TO (n + 1) x vs = fun w => if vs.length = fd.np then (match fd.kd with
      | .start => startO vs w
      | .draw => drawO vs w
      | .body => outV (execs (ex exF ⟨P.TO n, fun x => (P.fs.lookup x).isSome, fun x => P.cs.lookup x, fd.N, fd.mt, fun x => P.xs.lookup x, fun x => (P.ws.lookup x).isSome⟩) (L2.defBody fd.st) (slotsOf fd.N vs) w)
      | _ => .bad) else .bad := by
  funext w
  show (match P.fs.lookup x with
    | none => (match P.ws.lookup x with
      | none => R.bad
      | some fd => watT (P.TO n) fd.kd vs w)
    | some fd => _) = _
  rw [hx]
  try rfl
theorem sim_body {G GO : Cn} (g : SimG G GO) (b : List Stmt) (s : Sl) : Sim (fun w => outV (execs (ex exF G) b s w)) (fun w => outV (execs (ex exF GO) b s w)) := sim_outV (X := execs (ex exF G) b s) (XO := execs (ex exF GO) b s) (sim_execs (fun st s => sim_ex g exF st s) b s)
theorem sim_T (P : Pg) : ∀ (n : Nat) (x : Str) (vs : List D), Sim (P.T n x vs) (P.TO n x vs) := by
  intro n
  induction n with
  | zero => exact fun _ _ => Sim.bad
  | succ n ih =>
    intro x vs
    cases hx : P.fs.lookup x with
    | none =>
      rw [T_none hx, TO_none hx]
      cases hw : P.ws.lookup x with
      | none => exact Sim.bad
      | some fd => exact sim_wat ih fd.kd vs
    | some fd =>
      rw [T_some hx, TO_some hx]
      by_cases hl : vs.length = fd.np
      · simp only [if_pos hl]
        cases hk : fd.kd with
        | wini => exact Sim.bad
        | wpsh => exact Sim.bad
        | wres => exact Sim.bad
        | wchg => exact Sim.bad
        | wlst => exact Sim.bad
        | wund => exact Sim.bad
        | wlen => exact Sim.bad
        | start => exact sim_start vs
        | draw => exact sim_draw vs
        | body => exact sim_body (G := ⟨P.T n, fun x => (P.fs.lookup x).isSome, fun x => P.cs.lookup x, fd.N, fd.mt, fun x => P.xs.lookup x, fun x => (P.ws.lookup x).isSome⟩) (GO := ⟨P.TO n, fun x => (P.fs.lookup x).isSome, fun x => P.cs.lookup x, fd.N, fd.mt, fun x => P.xs.lookup x, fun x => (P.ws.lookup x).isSome⟩) ⟨ih, rfl, rfl, rfl, rfl, rfl, rfl⟩ _ _
      · simp only [if_neg hl]
        exact Sim.bad
/-- THE END: whatever the oracle says -/
theorem law_of {P : Pg} {n : Nat} {x : Str} (h : ∀ o, OkO o → ∃ w', P.TO n x [spc 0] [.orc o] = .ok (.val (.bool true)) w') (ns : List Int) (hl : ns.length ≤ 63) : ∃ w', P.T n x [spc 0] [.scr ns] = .ok (.val (.bool true)) w' := by
  have := sim_T P n x [spc 0] none [.scr ns] ⟨ns, rfl, by omega⟩ (fun a _ => a = .val (.bool true)) (fun a _ => a = .val (.bool true)) (fun _ _ => False) (fun _ _ => False) (fun _ _ _ _ h => h o0 ok_o0) (fun _ _ _ _ h => h o0 ok_o0) fun o ho => by
    obtain ⟨w', e⟩ := h o ho
    show WP (P.TO n x [spc 0] [.orc o]) _ _
    rw [e]
    rfl
  cases e : P.T n x [spc 0] [.scr ns] with
  | ok a w => rw [e] at this; exact ⟨w, by rw [show a = _ from this]⟩
  | exc c w => rw [e] at this; exact this.elim
  | bad => rw [e] at this; exact this.elim
end TM
namespace TM
def Orc.upd (o : Orc) (i : Nat) (l v : Int) : Orc := fun j m => if j = i ∧ m = l then v else o j m
theorem Orc.upd_self (o : Orc) (i : Nat) (l : Int) : Orc.upd o i l (o i l) = o := by
  funext j m
  unfold Orc.upd
  split
  · rename_i h; rw [h.1, h.2]
  · rfl
end TM

namespace TM
/-! ### sorted lists -/
abbrev Srt (xs : List Int) : Prop := xs.Pairwise (· ≤ ·)
theorem ins_prm (x : Int) : ∀ r : List Int, (ins x r).Perm (x :: r)
  | [] => .refl _
  | y :: r => by
    unfold ins
    by_cases h : x ≤ y
    · rw [if_pos h]
    · rw [if_neg h]
      exact ((ins_prm x r).cons y).trans (.swap x y r)
theorem srt_prm : ∀ r : List Int, (srt r).Perm r
  | [] => .refl _
  | x :: r => (ins_prm x (srt r)).trans ((srt_prm r).cons x)
theorem ins_srt (x : Int) : ∀ r : List Int, Srt r → Srt (ins x r)
  | [], _ => by simp [ins]
  | y :: r, h => by
    have hy := List.pairwise_cons.mp h
    unfold ins
    by_cases q : x ≤ y
    · rw [if_pos q]
      refine List.pairwise_cons.mpr ⟨fun z hz => ?_, h⟩
      rcases List.mem_cons.mp hz with rfl | hz
      · exact q
      · exact Int.le_trans q (hy.1 z hz)
    · rw [if_neg q]
      refine List.pairwise_cons.mpr ⟨fun z hz => ?_, ins_srt x r hy.2⟩
      rcases List.mem_cons.mp ((ins_prm x r).mem_iff.mp hz) with rfl | hz
      · omega
      · exact hy.1 z hz
theorem srt_srt : ∀ r : List Int, Srt (srt r)
  | [] => .nil
  | x :: r => ins_srt x _ (srt_srt r)
@[simp] theorem srt_len (r : List Int) : (srt r).length = r.length := (srt_prm r).length_eq
theorem srt_unq {xs ys : List Int} (h : xs.Perm ys) (hx : Srt xs) (hy : Srt ys) : xs = ys := h.eq_of_pairwise (fun a b _ _ h1 h2 => Int.le_antisymm h1 h2) hx hy
theorem srt_of_perm {xs ys : List Int} (h : xs.Perm ys) : srt xs = srt ys := srt_unq (((srt_prm xs).trans h).trans (srt_prm ys).symm) (srt_srt _) (srt_srt _)
theorem srt_id {xs : List Int} (h : Srt xs) : srt xs = xs := srt_unq (srt_prm xs) (srt_srt _) h
theorem ins_le {x y : Int} {r : List Int} (h : x ≤ y) : ins x (y :: r) = x :: y :: r := by unfold ins; rw [if_pos h]
theorem ins_self {x : Int} {r : List Int} (h : Srt (x :: r)) : ins x r = x :: r := by
  cases r with
  | nil => rfl
  | cons y r => exact ins_le ((List.pairwise_cons.mp h).1 y List.mem_cons_self)
theorem srt_map {f : Int → Int} (hf : ∀ a b, a ≤ b → f a ≤ f b) (xs : List Int) : srt (xs.map f) = (srt xs).map f :=
  srt_unq ((srt_prm _).trans ((srt_prm xs).map f).symm) (srt_srt _) (List.pairwise_map.mpr ((srt_srt xs).imp fun h => hf _ _ h))
theorem srt_anti {f : Int → Int} (hf : ∀ a b, a ≤ b → f b ≤ f a) (xs : List Int) : srt (xs.map f) = ((srt xs).map f).reverse :=
  srt_unq ((srt_prm _).trans (((srt_prm xs).map f).symm.trans (List.reverse_perm _).symm)) (srt_srt _) (List.pairwise_reverse.mpr (List.pairwise_map.mpr ((srt_srt xs).imp fun h => hf _ _ h)))
/-! ### one below the other -/
inductive Dom : List Int → List Int → Prop
  | nil : Dom [] []
  | cons {x y : Int} {xs ys : List Int} : x ≤ y → Dom xs ys → Dom (x :: xs) (y :: ys)
theorem Dom.refl : ∀ xs, Dom xs xs
  | [] => .nil
  | x :: r => .cons (Int.le_refl x) (Dom.refl r)
theorem Dom.len {xs ys : List Int} (h : Dom xs ys) : xs.length = ys.length := by
  induction h with
  | nil => rfl
  | cons _ _ ih => simp [ih]
theorem Dom.trans {xs ys zs : List Int} (h : Dom xs ys) (k : Dom ys zs) : Dom xs zs := by
  induction h generalizing zs with
  | nil => exact k
  | cons h _ ih => cases k with
    | cons k t => exact .cons (Int.le_trans h k) (ih t)
theorem Dom.get {xs ys : List Int} (h : Dom xs ys) : ∀ (i : Nat), xs.getD i 0 ≤ ys.getD i 0 := by
  induction h with
  | nil => intro i; exact Int.le_refl _
  | cons h _ ih => intro i; cases i with
    | zero => exact h
    | succ i => exact ih i
theorem Dom.of_get : ∀ {xs ys : List Int}, xs.length = ys.length → (∀ i < xs.length, xs.getD i 0 ≤ ys.getD i 0) → Dom xs ys
  | [], [], _, _ => .nil
  | x :: xs, y :: ys, h, k => .cons (k 0 (by simp)) (Dom.of_get (by simpa using h) fun i hi => k (i + 1) (by simpa using hi))
theorem Dom.sum {xs ys : List Int} (h : Dom xs ys) : xs.sum ≤ ys.sum := by
  induction h with
  | nil => exact Int.le_refl _
  | cons h _ ih => simp only [List.sum_cons]; omega
theorem Dom.app {xs ys us vs : List Int} (h : Dom xs ys) (k : Dom us vs) : Dom (xs ++ us) (ys ++ vs) := by
  induction h with
  | nil => exact k
  | cons h _ ih => exact .cons h ih
theorem Dom.drop {xs ys : List Int} (h : Dom xs ys) : ∀ n, Dom (xs.drop n) (ys.drop n) := by
  induction h with
  | nil => intro n; rw [List.drop_nil]; exact .nil
  | cons h t ih => intro n; cases n with
    | zero => exact .cons h t
    | succ n => exact ih n
theorem Dom.take {xs ys : List Int} (h : Dom xs ys) : ∀ n, Dom (xs.take n) (ys.take n) := by
  induction h with
  | nil => intro n; rw [List.take_nil]; exact .nil
  | cons h t ih => intro n; cases n with
    | zero => exact .nil
    | succ n => exact .cons h (ih n)
theorem Dom.ins {s t : List Int} (h : Dom s t) : ∀ {x y : Int}, x ≤ y → Srt s → Srt t → Dom (TM.ins x s) (TM.ins y t) := by
  induction h with
  | nil => intro x y q _ _; exact .cons q .nil
  | @cons a b s t h r ih =>
    intro x y q hs ht
    have hs' := (List.pairwise_cons.mp hs).2
    have ht' := (List.pairwise_cons.mp ht).2
    unfold TM.ins
    by_cases e1 : x ≤ a
    · by_cases e2 : y ≤ b
      · rw [if_pos e1, if_pos e2]; exact .cons q (.cons h r)
      · rw [if_pos e1, if_neg e2]
        refine .cons (by omega) ?_
        have := ih (x := a) (y := y) (by omega) hs' ht'
        rw [ins_self hs] at this
        exact this
    · by_cases e2 : y ≤ b
      · rw [if_neg e1, if_pos e2]
        refine .cons (by omega) ?_
        have := ih (x := x) (y := b) (by omega) hs' ht'
        rw [ins_self ht] at this
        exact this
      · rw [if_neg e1, if_neg e2]
        exact .cons h (ih q hs' ht')
theorem Dom.srt {s t : List Int} (h : Dom s t) : Dom (TM.srt s) (TM.srt t) := by
  induction h with
  | nil => exact .nil
  | cons h _ ih => exact ih.ins h (srt_srt _) (srt_srt _)
theorem Dom.map_add {s t : List Int} {c : Int} (h : Dom s t) : Dom (s.map (· + c)) (t.map (· + c)) := by
  induction h with
  | nil => exact .nil
  | cons h _ ih => exact .cons (Int.add_le_add_right h c) ih
theorem Dom.map {f : Int → Int} (hf : ∀ a b, a ≤ b → f a ≤ f b) {s t : List Int} (h : Dom s t) : Dom (s.map f) (t.map f) := by
  induction h with
  | nil => exact .nil
  | cons h _ ih => exact .cons (hf _ _ h) ih
/-! ### pairs and groups -/
def prs : List Int → List Int
  | [] => []
  | x :: r => (x :: r).map (fun y => x + y) ++ prs r
def grp (b : Nat) (xs : List Int) : List Int := (List.range (xs.length / b)).map fun i => ((xs.drop (i * b)).take b).sum
theorem Dom.prs {s t : List Int} (h : Dom s t) : Dom (TM.prs s) (TM.prs t) := by
  induction h with
  | nil => exact .nil
  | @cons x y s t h r ih =>
    refine Dom.app ?_ ih
    have aux : ∀ {u v : List Int}, Dom u v → Dom (u.map fun z => x + z) (v.map fun z => y + z) := by
      intro u v k
      induction k with
      | nil => exact .nil
      | cons k _ ih => exact .cons (Int.add_le_add h k) ih
    exact aux (.cons h r)
theorem Dom.of_map {α : Type} {f g : α → Int} : ∀ (l : List α), (∀ a ∈ l, f a ≤ g a) → Dom (l.map f) (l.map g)
  | [], _ => .nil
  | a :: r, h => .cons (h a List.mem_cons_self) (Dom.of_map r fun b hb => h b (List.mem_cons_of_mem _ hb))
theorem Dom.grp {s t : List Int} {b : Nat} (h : Dom s t) : Dom (TM.grp b s) (TM.grp b t) := by
  unfold TM.grp
  rw [h.len]
  exact Dom.of_map _ fun i _ => ((h.drop _).take _).sum
/-! ### the results: numerators over a denominator that hangs on rule and size alone -/
inductive Rl where
  | tr (g : Nat)
  | wi (g : Nat)
  | pa
  | gr (b : Nat)
  deriving DecidableEq
def Rl.ok (n : Nat) : Rl → Prop
  | .tr g => 2 * g < n
  | .wi g => 2 * g < n
  | .pa => 0 < n
  | .gr b => 0 < b ∧ 0 < n ∧ n % b = 0
instance (n : Nat) (r : Rl) : Decidable (r.ok n) := by cases r <;> unfold Rl.ok <;> infer_instance
/-- the middle of integers, twice -/
def mid2 (xs : List Int) : Int := (srt xs).getD ((xs.length - 1) / 2) 0 + (srt xs).getD (xs.length / 2) 0
def kept (g : Nat) (xs : List Int) : List Int := ((srt xs).drop g).take (xs.length - 2 * g)
def lowV (g : Nat) (xs : List Int) : Int := (srt xs).getD g 0
def highV (g : Nat) (xs : List Int) : Int := (srt xs).getD (xs.length - 1 - g) 0
def num (r : Rl) (xs : List Int) : Int := match r with
  | .tr g => (kept g xs).sum
  | .wi g => g * lowV g xs + (kept g xs).sum + g * highV g xs
  | .pa => mid2 (prs xs)
  | .gr b => mid2 (grp b xs)
def den (r : Rl) (n : Nat) : Nat := match r with
  | .tr g => n - 2 * g
  | .wi _ => n
  | .pa => 4
  | .gr b => 2 * b
theorem Dom.kept {s t : List Int} {g : Nat} (h : Dom s t) : Dom (TM.kept g s) (TM.kept g t) := by
  unfold TM.kept
  rw [h.len]
  exact (h.srt.drop _).take _
theorem Dom.mid2 {s t : List Int} (h : Dom s t) : TM.mid2 s ≤ TM.mid2 t := by
  unfold TM.mid2
  rw [h.len]
  have h1 := h.srt.get ((t.length - 1) / 2)
  have h2 := h.srt.get (t.length / 2)
  omega
theorem num_mono {s t : List Int} (r : Rl) (h : Dom s t) : num r s ≤ num r t := by
  cases r with
  | tr g => exact h.kept.sum
  | wi g =>
    have h1 := (h.kept (g := g)).sum
    have h2 : lowV g s ≤ lowV g t := h.srt.get _
    have h3 : highV g s ≤ highV g t := by unfold highV; rw [h.len]; exact h.srt.get _
    have h4 := Int.mul_le_mul_of_nonneg_left h2 (Int.natCast_nonneg g)
    have h5 := Int.mul_le_mul_of_nonneg_left h3 (Int.natCast_nonneg g)
    show (g : Int) * _ + _ + _ ≤ (g : Int) * _ + _ + _
    omega
  | pa => exact h.prs.mid2
  | gr b => exact h.grp.mid2
end TM

namespace TM
/-! ### permutations -/
theorem prs_perm {xs ys : List Int} (h : xs.Perm ys) : (prs xs).Perm (prs ys) := by
  induction h with
  | nil => exact .refl _
  | @cons x l1 l2 h ih => exact ((h.cons x).map _).append ih
  | swap x y l =>
    simp only [prs, List.map_cons, List.cons_append, Int.add_comm y x]
    refine List.perm_iff_count.mpr fun z => ?_
    simp only [List.count_cons, List.count_append]
    omega
  | trans _ _ h1 h2 => exact h1.trans h2
theorem mid2_perm {xs ys : List Int} (h : xs.Perm ys) : mid2 xs = mid2 ys := by
  unfold mid2
  rw [srt_of_perm h, h.length_eq]
def isGr : Rl → Bool
  | .gr _ => true
  | _ => false
theorem num_perm {xs ys : List Int} {r : Rl} (hr : isGr r = false) (h : xs.Perm ys) : num r xs = num r ys := by
  cases r with
  | tr g => simp only [num, kept, srt_of_perm h, h.length_eq]
  | wi g => simp only [num, kept, lowV, highV, srt_of_perm h, h.length_eq]
  | pa => exact mid2_perm (prs_perm h)
  | gr b => cases hr
/-! ### lengths -/
theorem prs_len : ∀ xs : List Int, 2 * (prs xs).length = xs.length * (xs.length + 1)
  | [] => rfl
  | x :: r => by
    have := prs_len r
    simp only [prs, List.length_append, List.length_map, List.length_cons]
    rw [Nat.mul_add, this]
    simp only [Nat.add_mul, Nat.mul_add]
    omega
@[simp] theorem grp_len (b : Nat) (xs : List Int) : (grp b xs).length = xs.length / b := by simp [grp]
theorem kept_len {g : Nat} {xs : List Int} (h : 2 * g ≤ xs.length) : (kept g xs).length = xs.length - 2 * g := by
  simp [kept]; omega
/-! ### moved -/
theorem sum_map_add (c : Int) : ∀ xs : List Int, (xs.map (· + c)).sum = xs.sum + xs.length * c
  | [] => by simp
  | x :: r => by
    have := sum_map_add c r
    simp only [List.map_cons, List.sum_cons, List.length_cons, this]
    rw [Int.natCast_add, Int.add_mul]
    omega
theorem sum_map_mul (c : Int) : ∀ xs : List Int, (xs.map (· * c)).sum = xs.sum * c
  | [] => by simp
  | x :: r => by
    have := sum_map_mul c r
    simp only [List.map_cons, List.sum_cons, this, Int.add_mul]
theorem getD_map {f : Int → Int} {xs : List Int} {i : Nat} (h : i < xs.length) : (xs.map f).getD i 0 = f (xs.getD i 0) := by
  simp [List.getD_eq_getElem?_getD, h]
theorem kept_map {f : Int → Int} (hf : ∀ a b, a ≤ b → f a ≤ f b) (g : Nat) (xs : List Int) : kept g (xs.map f) = (kept g xs).map f := by
  unfold kept
  rw [srt_map hf, List.length_map, List.map_take, List.map_drop]
theorem mid2_map {f : Int → Int} (hf : ∀ a b, a ≤ b → f a ≤ f b) {xs : List Int} (h : 0 < xs.length) : mid2 (xs.map f) = f ((srt xs).getD ((xs.length - 1) / 2) 0) + f ((srt xs).getD (xs.length / 2) 0) := by
  unfold mid2
  rw [srt_map hf, List.length_map, getD_map (by simp; omega), getD_map (by simp; omega)]
theorem mid2_anti {f : Int → Int} (hf : ∀ a b, a ≤ b → f b ≤ f a) {xs : List Int} (h : 0 < xs.length) : mid2 (xs.map f) = f ((srt xs).getD ((xs.length - 1) / 2) 0) + f ((srt xs).getD (xs.length / 2) 0) := by
  unfold mid2
  rw [srt_anti hf, List.length_map]
  have e : ∀ i j, i < xs.length → j < xs.length → i + j = xs.length - 1 → ((srt xs).map f).reverse.getD i 0 = f ((srt xs).getD j 0) := by
    intro i j hi hj e
    rw [← getD_map (f := f) (by simpa using hj)]
    simp only [List.getD_eq_getElem?_getD]
    rw [List.getElem?_reverse (by simpa using hi)]
    congr 2
    simp; omega
  rw [e _ (xs.length / 2) (by omega) (by omega) (by omega), e _ ((xs.length - 1) / 2) (by omega) (by omega) (by omega)]
  omega
theorem prs_ne {xs : List Int} (h : 0 < xs.length) : 0 < (prs xs).length := by
  have := prs_len xs
  have : 0 < xs.length * (xs.length + 1) := Nat.mul_pos h (by omega)
  omega
theorem prs_add (c : Int) : ∀ xs : List Int, prs (xs.map (· + c)) = (prs xs).map (· + 2 * c)
  | [] => rfl
  | x :: r => by
    simp only [prs, List.map_cons, List.map_append, List.map_map, prs_add c r]
    congr 1
    congr 1
    · omega
    · apply List.map_congr_left
      intro a _
      simp only [Function.comp]
      omega
theorem prs_mul (c : Int) : ∀ xs : List Int, prs (xs.map (· * c)) = (prs xs).map (· * c)
  | [] => rfl
  | x :: r => by
    simp only [prs, List.map_cons, List.map_append, List.map_map, prs_mul c r]
    congr 1
    congr 1
    · rw [Int.add_mul]
    · apply List.map_congr_left
      intro a _
      simp only [Function.comp, Int.add_mul]
theorem grp_add {b : Nat} {xs : List Int} (hb : xs.length % b = 0) (c : Int) : grp b (xs.map (· + c)) = (grp b xs).map (· + b * c) := by
  unfold grp
  rw [List.length_map, List.map_map]
  apply List.map_congr_left
  intro i hi
  simp only [Function.comp]
  rw [← List.map_drop, ← List.map_take, sum_map_add]
  congr 2
  have h1 : i < xs.length / b := List.mem_range.mp hi
  have h2 := Nat.div_add_mod xs.length b
  have h3 : b * (i + 1) ≤ b * (xs.length / b) := Nat.mul_le_mul_left b h1
  rw [Nat.mul_add, Nat.mul_comm b i] at h3
  simp only [List.length_take, List.length_drop]
  congr 1
  omega
theorem grp_mul (b : Nat) (xs : List Int) (c : Int) : grp b (xs.map (· * c)) = (grp b xs).map (· * c) := by
  unfold grp
  rw [List.length_map, List.map_map]
  apply List.map_congr_left
  intro i hi
  simp only [Function.comp]
  rw [← List.map_drop, ← List.map_take, sum_map_mul]
theorem add_mono (c : Int) : ∀ a b : Int, a ≤ b → a + c ≤ b + c := fun a b h => by omega
theorem grp_ne {b : Nat} {xs : List Int} (hb : 0 < b) (h0 : 0 < xs.length) (hm : xs.length % b = 0) : 0 < xs.length / b := by
  have h2 := Nat.div_add_mod xs.length b
  rcases Nat.eq_zero_or_pos (xs.length / b) with e | e
  · rw [e] at h2; omega
  · exact e
theorem num_add {r : Rl} {xs : List Int} (h : r.ok xs.length) (c : Int) : num r (xs.map (· + c)) = num r xs + den r xs.length * c := by
  cases r with
  | tr g =>
    simp only [num, den, kept_map (add_mono c), sum_map_add]
    rw [kept_len (by unfold Rl.ok at h; omega)]
  | wi g =>
    have h' : 2 * g < xs.length := h
    simp only [num, den, kept_map (add_mono c), sum_map_add, lowV, highV, srt_map (add_mono c), List.length_map]
    rw [kept_len (by omega), getD_map (by simp; omega), getD_map (by simp; omega)]
    have e : ((xs.length - 2 * g : Nat) : Int) = (xs.length : Int) - 2 * g := by omega
    rw [e]
    simp only [Int.mul_add, Int.sub_mul, Int.mul_assoc]
    omega
  | pa =>
    simp only [num, den, prs_add]
    rw [mid2_map (add_mono _) (prs_ne h)]
    unfold mid2
    omega
  | gr b =>
    obtain ⟨h1, h2, h3⟩ := h
    simp only [num, den, grp_add h3]
    rw [mid2_map (add_mono _) (by rw [grp_len]; exact grp_ne h1 h2 h3)]
    unfold mid2
    simp only [Int.natCast_mul, Int.mul_assoc]
    omega
/-! ### scaled -/
theorem mul_mono {c : Int} (hc : 0 ≤ c) : ∀ a b : Int, a ≤ b → a * c ≤ b * c := fun a b h => Int.mul_le_mul_of_nonneg_right h hc
theorem mul_anti {c : Int} (hc : c ≤ 0) : ∀ a b : Int, a ≤ b → b * c ≤ a * c := fun a b h => Int.mul_le_mul_of_nonpos_right h hc
theorem mid2_mul {c : Int} {xs : List Int} (h : 0 < xs.length) : mid2 (xs.map (· * c)) = mid2 xs * c := by
  rcases Int.le_total 0 c with hc | hc
  · rw [mid2_map (mul_mono hc) h]; unfold mid2; rw [Int.add_mul]
  · rw [mid2_anti (mul_anti hc) h]; unfold mid2; rw [Int.add_mul]
theorem kept_anti {f : Int → Int} (hf : ∀ a b, a ≤ b → f b ≤ f a) {g : Nat} {xs : List Int} (h : 2 * g ≤ xs.length) : kept g (xs.map f) = ((kept g xs).map f).reverse := by
  unfold kept
  rw [srt_anti hf, List.length_map, List.drop_reverse, List.take_reverse]
  congr 1
  simp only [List.length_map, srt_len, List.length_take, List.drop_take, List.map_take, List.map_drop]
  congr 1
  · omega
  · congr 1
    omega
theorem num_mul {r : Rl} {xs : List Int} (h : r.ok xs.length) (c : Int) : num r (xs.map (· * c)) = num r xs * c := by
  cases r with
  | tr g =>
    have h' : 2 * g < xs.length := h
    rcases Int.le_total 0 c with hc | hc
    · simp only [num, kept_map (mul_mono hc), sum_map_mul]
    · simp only [num]
      rw [kept_anti (mul_anti hc) (by omega), List.sum_reverse, sum_map_mul]
  | wi g =>
    have h' : 2 * g < xs.length := h
    rcases Int.le_total 0 c with hc | hc
    · simp only [num, kept_map (mul_mono hc), sum_map_mul, lowV, highV, srt_map (mul_mono hc), List.length_map]
      rw [getD_map (by simp; omega), getD_map (by simp; omega)]
      simp only [Int.add_mul, Int.mul_assoc]
    · simp only [num, lowV, highV, List.length_map]
      rw [kept_anti (mul_anti hc) (by omega), List.sum_reverse, sum_map_mul, srt_anti (mul_anti hc)]
      have e : ∀ i j, i < xs.length → j < xs.length → i + j = xs.length - 1 → ((srt xs).map (· * c)).reverse.getD i 0 = (srt xs).getD j 0 * c := by
        intro i j hi hj e
        rw [← getD_map (f := (· * c)) (by simpa using hj)]
        simp only [List.getD_eq_getElem?_getD]
        rw [List.getElem?_reverse (by simpa using hi)]
        congr 2
        simp; omega
      rw [e g (xs.length - 1 - g) (by omega) (by omega) (by omega), e (xs.length - 1 - g) g (by omega) (by omega) (by omega)]
      simp only [Int.add_mul, Int.mul_assoc]
      omega
  | pa =>
    simp only [num, prs_mul]
    exact mid2_mul (prs_ne h)
  | gr b =>
    obtain ⟨h1, h2, h3⟩ := h
    simp only [num, grp_mul]
    exact mid2_mul (by rw [grp_len]; exact grp_ne h1 h2 h3)
end TM

namespace TM
/-! ### fractions in lowest terms -/
def lowF (t b : Int) : Int × Int := (t.fdiv (Int.gcd t b), b.fdiv (Int.gcd t b))
theorem low_mul {c : Int} (hc : 0 < c) (t b : Int) : lowF (t * c) (b * c) = lowF t b := by
  unfold lowF
  rw [Int.gcd_mul_right, Int.natCast_mul, Int.natAbs_of_nonneg (by omega), Int.mul_fdiv_mul_of_pos_left _ _ hc, Int.mul_fdiv_mul_of_pos_left _ _ hc]
/-- what it is made of -/
theorem low_spec {t b : Int} (hb : 0 < b) : ∃ g : Int, 0 < g ∧ (lowF t b).1 * g = t ∧ (lowF t b).2 * g = b ∧ 0 < (lowF t b).2 := by
  have g0 : 0 < Int.gcd t b := Int.gcd_pos_of_ne_zero_right t (by omega)
  have e2 : (lowF t b).2 * (Int.gcd t b : Int) = b := Int.fdiv_mul_cancel (Int.gcd_dvd_right t b)
  refine ⟨Int.gcd t b, by omega, Int.fdiv_mul_cancel (Int.gcd_dvd_left t b), e2, ?_⟩
  rcases Int.lt_or_le 0 (lowF t b).2 with h | h
  · exact h
  · have := Int.mul_le_mul_of_nonneg_right h (show (0 : Int) ≤ (Int.gcd t b : Int) by omega)
    omega
theorem low_eq_iff {t b t' b' : Int} (hb : 0 < b) (hb' : 0 < b') : lowF t b = lowF t' b' ↔ t * b' = t' * b := by
  constructor
  · intro h
    obtain ⟨g, _, e1, e2, _⟩ := low_spec (t := t) hb
    obtain ⟨g', _, e3, e4, _⟩ := low_spec (t := t') hb'
    rw [h] at e1 e2
    generalize lowF t' b' = p at *
    rw [← e1, ← e2, ← e3, ← e4]
    simp only [Int.mul_assoc, Int.mul_left_comm, Int.mul_comm]
  · intro h
    rw [← low_mul hb' t b, ← low_mul hb t' b', h, Int.mul_comm b b']
theorem low_inj {t t' b : Int} (hb : 0 < b) : lowF t b = lowF t' b ↔ t = t' := by
  rw [low_eq_iff hb hb]
  constructor
  · intro h; exact Int.eq_of_mul_eq_mul_right (by omega) h
  · intro h; rw [h]
theorem low_pos {t b : Int} (hb : 0 < b) : 0 < (lowF t b).2 := (low_spec hb).choose_spec.2.2.2
theorem low_le {t b : Int} (hb : 0 < b) : (lowF t b).2 ≤ b := by
  obtain ⟨g, hg, _, e, hp⟩ := low_spec (t := t) hb
  have := Int.mul_le_mul_of_nonneg_left (show 1 ≤ g by omega) (show 0 ≤ (lowF t b).2 by omega)
  omega
theorem low_abs {t b : Int} (hb : 0 < b) : (lowF t b).1.natAbs ≤ t.natAbs := by
  obtain ⟨g, hg, e, _, _⟩ := low_spec (t := t) hb
  have e' := congrArg Int.natAbs e
  rw [Int.natAbs_mul] at e'
  rw [← e']
  exact Nat.le_mul_of_pos_right _ (by omega)
theorem low_bd {t b : Int} (hb : 0 < b) {m : Int} (h : -m ≤ t ∧ t ≤ m) : -m ≤ (lowF t b).1 ∧ (lowF t b).1 ≤ m := by
  have := low_abs (t := t) hb
  omega
/-- a fraction of integers: its own lowest terms -/
theorem low_one (t : Int) : lowF t 1 = (t, 1) := by
  unfold lowF
  rw [Int.gcd_one_right]
  simp
theorem low_low {t b c : Int} (hb : 0 < b) (hc : 0 < c) : lowF ((lowF t b).1) ((lowF t b).2 * c) = lowF t (b * c) := by
  obtain ⟨g, hg, e1, e2, hp⟩ := low_spec (t := t) hb
  rw [← low_mul hg, e1]
  congr 1
  rw [Int.mul_right_comm, e2]
theorem low_low1 {t b : Int} (hb : 0 < b) : lowF ((lowF t b).1) ((lowF t b).2) = lowF t b := by
  have := low_low (t := t) hb (c := 1) (by omega)
  simpa using this
/-- with a numerator changed alike -/
theorem low_lowm {t b m : Int} (hb : 0 < b) : lowF ((lowF t b).1 * m) (lowF t b).2 = lowF (t * m) b := by
  obtain ⟨g, hg, e1, e2, hp⟩ := low_spec (t := t) hb
  rw [← low_mul hg, e2, Int.mul_right_comm, e1]
theorem low_add {t b t' b' : Int} (hb : 0 < b) (hb' : 0 < b') : lowF ((lowF t b).1 * (lowF t' b').2 + (lowF t' b').1 * (lowF t b).2) ((lowF t b).2 * (lowF t' b').2) = lowF (t * b' + t' * b) (b * b') := by
  obtain ⟨g, hg, e1, e2, hp⟩ := low_spec (t := t) hb
  obtain ⟨g', hg', e3, e4, hp'⟩ := low_spec (t := t') hb'
  rw [← low_mul (Int.mul_pos hg hg')]
  congr 1
  · rw [Int.add_mul]
    congr 1
    · rw [show (lowF t b).1 * (lowF t' b').2 * (g * g') = ((lowF t b).1 * g) * ((lowF t' b').2 * g') by simp only [Int.mul_assoc, Int.mul_left_comm, Int.mul_comm], e1, e4]
    · rw [show (lowF t' b').1 * (lowF t b).2 * (g * g') = ((lowF t' b').1 * g') * ((lowF t b).2 * g) by simp only [Int.mul_assoc, Int.mul_left_comm, Int.mul_comm], e3, e2]
  · rw [show (lowF t b).2 * (lowF t' b').2 * (g * g') = ((lowF t b).2 * g) * ((lowF t' b').2 * g') by simp only [Int.mul_assoc, Int.mul_left_comm, Int.mul_comm], e2, e4]
theorem low_same {t t' b : Int} (hb : 0 < b) : lowF (t * b + t' * b) (b * b) = lowF (t + t') b := by
  rw [← Int.add_mul]
  exact low_mul hb _ _
/-- added over one denominator -/
theorem low_add1 {t t' b : Int} (hb : 0 < b) : lowF ((lowF t b).1 * (lowF t' b).2 + (lowF t' b).1 * (lowF t b).2) ((lowF t b).2 * (lowF t' b).2) = lowF (t + t') b := by
  rw [low_add hb hb, low_same hb]
theorem low_half {t t' b : Int} (hb : 0 < b) : lowF (lowF (t + t') b).1 (2 * (lowF (t + t') b).2) = lowF (t + t') (2 * b) := by
  rw [Int.mul_comm 2, low_low hb (by omega), Int.mul_comm b]
theorem low_neg {t b : Int} (hb : 0 < b) : (-(lowF t b).1, (lowF t b).2) = lowF (-t) b := by
  obtain ⟨g, hg, e1, e2, hp⟩ := low_spec (t := t) hb
  unfold lowF
  rw [show Int.gcd (-t) b = Int.gcd t b from Int.neg_gcd]
  congr 1
  show -(t.fdiv (Int.gcd t b)) = _
  have d := Int.gcd_dvd_left t b
  have g0 : 0 < Int.gcd t b := Int.gcd_pos_of_ne_zero_right t (by omega)
  obtain ⟨k, hk⟩ := d
  have g1 : (Int.gcd t b : Int) ≠ 0 := by omega
  clear e1 e2 hp g0
  generalize (Int.gcd t b : Int) = G at *
  rw [hk, show -(G * k) = G * (-k) by rw [Int.mul_neg], Int.mul_fdiv_cancel_left _ g1, Int.mul_fdiv_cancel_left _ g1]
/-- below -/
theorem low_lt {t b t' b' : Int} (hb : 0 < b) (hb' : 0 < b') : (lowF t b).1 * (lowF t' b').2 < (lowF t' b').1 * (lowF t b).2 ↔ t * b' < t' * b := by
  obtain ⟨g, hg, e1, e2, hp⟩ := low_spec (t := t) hb
  obtain ⟨g', hg', e3, e4, hp'⟩ := low_spec (t := t') hb'
  have h := Int.mul_pos hg hg'
  have k1 : (lowF t b).1 * (lowF t' b').2 * (g * g') = t * b' := by
    rw [show (lowF t b).1 * (lowF t' b').2 * (g * g') = ((lowF t b).1 * g) * ((lowF t' b').2 * g') by simp only [Int.mul_assoc, Int.mul_left_comm, Int.mul_comm], e1, e4]
  have k2 : (lowF t' b').1 * (lowF t b).2 * (g * g') = t' * b := by
    rw [show (lowF t' b').1 * (lowF t b).2 * (g * g') = ((lowF t' b').1 * g') * ((lowF t b).2 * g) by simp only [Int.mul_assoc, Int.mul_left_comm, Int.mul_comm], e3, e2]
  rw [← k1, ← k2]
  exact (Int.mul_lt_mul_right h).symm
theorem low_lt1 {t t' b : Int} (hb : 0 < b) : (lowF t b).1 * (lowF t' b).2 < (lowF t' b).1 * (lowF t b).2 ↔ t < t' := by
  rw [low_lt hb hb]
  exact Int.mul_lt_mul_right hb
/-- against an integer -/
theorem low_lt_int {t b v : Int} (hb : 0 < b) : (lowF t b).1 * 1 < v * (lowF t b).2 ↔ t < v * b := by
  have := low_lt (t := t) (t' := v) hb (show (0 : Int) < 1 by omega)
  rw [low_one] at this
  simpa using this
theorem low_int_lt {t b v : Int} (hb : 0 < b) : v * (lowF t b).2 < (lowF t b).1 * 1 ↔ v * b < t := by
  have := low_lt (t := v) (t' := t) (show (0 : Int) < 1 by omega) hb
  rw [low_one] at this
  simpa using this
theorem low_nonneg {t b : Int} (hb : 0 < b) : (lowF t b).1 < 0 ↔ t < 0 := by
  have := low_lt_int (t := t) (v := 0) hb
  simpa using this
end TM

namespace TM
/-! ### clamped values -/
theorem srt_get {xs : List Int} (h : Srt xs) {i j : Nat} (hij : i ≤ j) (hj : j < xs.length) : xs.getD i 0 ≤ xs.getD j 0 := by
  rcases Nat.lt_or_ge i j with q | q
  · have := List.pairwise_iff_getElem.mp h i j (by omega) hj q
    simpa [List.getD_eq_getElem?_getD, hj, show i < xs.length by omega] using this
  · have : i = j := by omega
    subst this
    exact Int.le_refl _
theorem mem_getD {xs : List Int} {v : Int} (h : v ∈ xs) : ∃ i < xs.length, v = xs.getD i 0 := by
  obtain ⟨i, hi, e⟩ := List.mem_iff_getElem.mp h
  exact ⟨i, hi, by simp [List.getD_eq_getElem?_getD, hi, e]⟩
theorem sum_const {f : Int → Int} {c : Int} : ∀ {xs : List Int}, (∀ v ∈ xs, f v = c) → (xs.map f).sum = xs.length * c
  | [], _ => by simp
  | x :: r, h => by
    have := sum_const (xs := r) fun v hv => h v (List.mem_cons_of_mem _ hv)
    simp only [List.map_cons, List.sum_cons, this, h x List.mem_cons_self, List.length_cons]
    rw [Int.natCast_add, Int.add_mul]
    omega
theorem map_id_of {f : Int → Int} {xs : List Int} (h : ∀ v ∈ xs, f v = v) : xs.map f = xs := by
  conv => rhs; rw [← List.map_id xs]
  exact List.map_congr_left fun v hv => h v hv
theorem mem_take_getD {xs : List Int} {v : Int} {k : Nat} (h : v ∈ xs.take k) : ∃ i < xs.length, i < k ∧ v = xs.getD i 0 := by
  obtain ⟨i, hi, e⟩ := List.mem_iff_getElem.mp h
  simp at hi
  refine ⟨i, by omega, by omega, ?_⟩
  rw [← e]
  simp [List.getD_eq_getElem?_getD, show i < xs.length by omega]
theorem mem_drop_getD {xs : List Int} {v : Int} {k : Nat} (h : v ∈ xs.drop k) : ∃ i < xs.length, k ≤ i ∧ v = xs.getD i 0 := by
  obtain ⟨i, hi, e⟩ := List.mem_iff_getElem.mp h
  simp at hi
  refine ⟨k + i, by omega, by omega, ?_⟩
  rw [← e]
  simp [List.getD_eq_getElem?_getD, show k + i < xs.length by omega]
/-- the three parts of the ordered values -/
theorem srt_parts {g : Nat} {xs : List Int} (h : 2 * g ≤ xs.length) : srt xs = (srt xs).take g ++ (kept g xs ++ (srt xs).drop (xs.length - g)) := by
  unfold kept
  conv => lhs; rw [← List.take_append_drop g (srt xs), ← List.take_append_drop (xs.length - 2 * g) ((srt xs).drop g), List.drop_drop]
  rw [show g + (xs.length - 2 * g) = xs.length - g by omega]
theorem mem_kept {g : Nat} {xs : List Int} {v : Int} (h : 2 * g < xs.length) (hv : v ∈ kept g xs) : lowV g xs ≤ v ∧ v ≤ highV g xs := by
  unfold kept at hv
  obtain ⟨i, hi, e⟩ := List.mem_iff_getElem.mp hv
  simp at hi
  have e2 : v = (srt xs).getD (g + i) 0 := by
    rw [← e]
    simp [List.getD_eq_getElem?_getD, show g + i < xs.length by omega]
  rw [e2]
  exact ⟨srt_get (srt_srt xs) (by omega) (by simp; omega), srt_get (srt_srt xs) (by omega) (by simp; omega)⟩
theorem low_le_high {g : Nat} {xs : List Int} (h : 2 * g < xs.length) : lowV g xs ≤ highV g xs := srt_get (srt_srt xs) (by omega) (by simp; omega)
theorem sum_perm {xs ys : List Int} (h : xs.Perm ys) : xs.sum = ys.sum := by
  induction h with
  | nil => rfl
  | cons x _ ih => simp [ih]
  | swap x y l => simp only [List.sum_cons]; omega
  | trans _ _ h1 h2 => exact h1.trans h2
def clamp (lo hi v : Int) : Int := min hi (max lo v)
theorem clamp_sum {g : Nat} {xs : List Int} (h : 2 * g < xs.length) : (xs.map (clamp (lowV g xs) (highV g xs))).sum = num (.wi g) xs := by
  have lh := low_le_high h
  have a1 : ∀ v ∈ (srt xs).take g, clamp (lowV g xs) (highV g xs) v = lowV g xs := fun v hv => by
    obtain ⟨i, h1, h2, e⟩ := mem_take_getD hv
    have : v ≤ lowV g xs := by rw [e]; exact srt_get (srt_srt xs) (by omega) (by simp; omega)
    unfold clamp; omega
  have a2 : ∀ v ∈ kept g xs, clamp (lowV g xs) (highV g xs) v = v := fun v hv => by
    have := mem_kept h hv
    unfold clamp; omega
  have a3 : ∀ v ∈ (srt xs).drop (xs.length - g), clamp (lowV g xs) (highV g xs) v = highV g xs := fun v hv => by
    obtain ⟨i, h1, h2, e⟩ := mem_drop_getD hv
    have : highV g xs ≤ v := by rw [e]; exact srt_get (srt_srt xs) (by omega) (by simp at *; omega)
    unfold clamp; omega
  rw [← sum_perm ((srt_prm xs).map _), srt_parts (g := g) (by omega), List.map_append, List.map_append, List.sum_append, List.sum_append, sum_const a1, map_id_of a2, sum_const a3]
  simp only [List.length_take, List.length_drop, srt_len]
  rw [Nat.min_eq_left (by omega), show xs.length - (xs.length - g) = g by omega]
  show _ = (g : Int) * _ + _ + _
  omega
/-! ### bounds -/
theorem mem_srt {xs : List Int} {v : Int} : v ∈ srt xs ↔ v ∈ xs := (srt_prm xs).mem_iff
theorem srt_bd {xs : List Int} {i : Nat} {lo hi : Int} (h : ∀ v ∈ xs, lo ≤ v ∧ v ≤ hi) (hi' : i < xs.length) : lo ≤ (srt xs).getD i 0 ∧ (srt xs).getD i 0 ≤ hi := by
  apply h
  rw [← mem_srt, List.getD_eq_getElem?_getD, List.getElem?_eq_getElem (by simpa using hi')]
  exact List.getElem_mem _
theorem sum_bds {lo hi : Int} : ∀ {xs : List Int}, (∀ v ∈ xs, lo ≤ v ∧ v ≤ hi) → lo * xs.length ≤ xs.sum ∧ xs.sum ≤ hi * xs.length
  | [], _ => by simp
  | x :: r, h => by
    have hx := h x List.mem_cons_self
    have := sum_bds (xs := r) fun v hv => h v (List.mem_cons_of_mem _ hv)
    simp only [List.sum_cons, List.length_cons]
    rw [Int.natCast_add, Int.mul_add, Int.mul_add]
    omega
theorem prs_bds {lo hi : Int} {xs : List Int} (h : ∀ v ∈ xs, lo ≤ v ∧ v ≤ hi) : ∀ t ∈ prs xs, 2 * lo ≤ t ∧ t ≤ 2 * hi := by
  induction xs with
  | nil => intro t ht; cases ht
  | cons x r ih =>
    intro t ht
    have hx := h x List.mem_cons_self
    rcases List.mem_append.mp ht with q | q
    · obtain ⟨y, hy, rfl⟩ := List.mem_map.mp q
      have := h y hy
      omega
    · exact ih (fun v hv => h v (List.mem_cons_of_mem _ hv)) t q
theorem grp_bds {lo hi : Int} {b : Nat} {xs : List Int} (hb : xs.length % b = 0) (h : ∀ v ∈ xs, lo ≤ v ∧ v ≤ hi) : ∀ t ∈ grp b xs, lo * b ≤ t ∧ t ≤ hi * b := by
  intro t ht
  obtain ⟨i, hi', rfl⟩ := List.mem_map.mp ht
  have h1 : i < xs.length / b := List.mem_range.mp hi'
  have := sum_bds (xs := (xs.drop (i * b)).take b) fun v hv => h v (List.mem_of_mem_drop (List.mem_of_mem_take hv))
  have h2 := Nat.div_add_mod xs.length b
  have h3 : b * (i + 1) ≤ b * (xs.length / b) := Nat.mul_le_mul_left b h1
  rw [Nat.mul_add, Nat.mul_comm b i] at h3
  have e : ((xs.drop (i * b)).take b).length = b := by simp; omega
  rw [e] at this
  exact this
theorem mid2_bds {lo hi : Int} {xs : List Int} (h0 : 0 < xs.length) (h : ∀ v ∈ xs, lo ≤ v ∧ v ≤ hi) : 2 * lo ≤ mid2 xs ∧ mid2 xs ≤ 2 * hi := by
  have h1 := srt_bd (i := (xs.length - 1) / 2) h (by omega)
  have h2 := srt_bd (i := xs.length / 2) h (by omega)
  unfold mid2
  omega
theorem num_bds {r : Rl} {lo hi : Int} {xs : List Int} (hr : r.ok xs.length) (h : ∀ v ∈ xs, lo ≤ v ∧ v ≤ hi) : lo * den r xs.length ≤ num r xs ∧ num r xs ≤ hi * den r xs.length := by
  cases r with
  | tr g =>
    have hr : 2 * g < xs.length := hr
    have := sum_bds (lo := lo) (hi := hi) (xs := kept g xs) fun v hv => h v (mem_srt.mp (List.mem_of_mem_drop (List.mem_of_mem_take hv)))
    rw [kept_len (by omega)] at this
    exact this
  | wi g =>
    have hr : 2 * g < xs.length := hr
    have := sum_bds (lo := lo) (hi := hi) (xs := xs.map (clamp (lowV g xs) (highV g xs))) fun v hv => by
      obtain ⟨u, hu, rfl⟩ := List.mem_map.mp hv
      have h1 : lo ≤ lowV g xs ∧ lowV g xs ≤ hi := srt_bd h (by omega)
      have h2 : lo ≤ highV g xs ∧ highV g xs ≤ hi := srt_bd h (by omega)
      have := h u hu
      unfold clamp
      omega
    rw [clamp_sum hr, List.length_map] at this
    exact this
  | pa =>
    have := mid2_bds (prs_ne hr) (prs_bds h)
    show lo * 4 ≤ mid2 _ ∧ mid2 _ ≤ hi * 4
    omega
  | gr b =>
    obtain ⟨h1, h2, h3⟩ := hr
    have := mid2_bds (by rw [grp_len]; exact grp_ne h1 h2 h3) (grp_bds h3 h)
    show lo * ((2 * b : Nat) : Int) ≤ mid2 _ ∧ mid2 _ ≤ hi * ((2 * b : Nat) : Int)
    rw [Int.natCast_mul, show ((2 : Nat) : Int) = 2 from rfl, Int.mul_left_comm lo, Int.mul_left_comm hi]
    exact this
theorem den_pos {r : Rl} {n : Nat} (h : r.ok n) : 0 < den r n := by
  cases r with
  | tr g => unfold Rl.ok at h; show 0 < n - 2 * g; omega
  | wi g => unfold Rl.ok at h; show 0 < n; omega
  | pa => show 0 < 4; omega
  | gr b => have := h.1; show 0 < 2 * b; omega
end TM

namespace TM
/-! ### medians -/
theorem take2 {xs : List Int} {i : Nat} (h : i + 1 < xs.length) : ((xs.drop i).take 2).sum = xs.getD i 0 + xs.getD (i + 1) 0 := by
  rw [List.drop_eq_getElem_cons (show i < xs.length by omega), List.drop_eq_getElem_cons h, List.getD_eq_getElem?_getD, List.getD_eq_getElem?_getD, List.getElem?_eq_getElem h, List.getElem?_eq_getElem (show i < xs.length by omega)]
  simp only [List.take_succ_cons, List.take_zero, List.sum_cons, List.sum_nil, Option.getD_some]
  omega
theorem take1 {xs : List Int} {i : Nat} (h : i < xs.length) : ((xs.drop i).take 1).sum = xs.getD i 0 := by
  rw [List.drop_eq_getElem_cons h, List.getD_eq_getElem?_getD, List.getElem?_eq_getElem h]
  simp only [List.take_succ_cons, List.take_zero, List.sum_cons, List.sum_nil, Option.getD_some]
  omega
theorem num_mid {xs : List Int} (h : 0 < xs.length) : lowF (num (.tr ((xs.length - 1) / 2)) xs) (den (.tr ((xs.length - 1) / 2)) xs.length) = lowF (mid2 xs) 2 := by
  rw [low_eq_iff (by have := den_pos (r := .tr ((xs.length - 1) / 2)) (n := xs.length) (by show 2 * _ < _; omega); omega) (by omega)]
  show (kept _ xs).sum * 2 = mid2 xs * ((xs.length - 2 * ((xs.length - 1) / 2) : Nat) : Int)
  unfold kept mid2
  rcases Nat.mod_two_eq_zero_or_one xs.length with e | e
  · have e1 : xs.length - 2 * ((xs.length - 1) / 2) = 2 := by omega
    have e2 : xs.length / 2 = (xs.length - 1) / 2 + 1 := by omega
    rw [e1, e2, take2 (by simp; omega)]
    omega
  · have e1 : xs.length - 2 * ((xs.length - 1) / 2) = 1 := by omega
    have e2 : xs.length / 2 = (xs.length - 1) / 2 := by omega
    rw [e1, e2, take1 (by simp; omega)]
    omega
theorem grp_one : ∀ xs : List Int, grp 1 xs = xs := by
  intro xs
  unfold grp
  rw [Nat.div_one]
  apply List.ext_getElem
  · simp
  · intro i h1 h2
    simp only [List.getElem_map, List.getElem_range, Nat.mul_one]
    rw [take1 h2]
    simp [List.getD_eq_getElem?_getD, h2]
end TM

namespace TM
/-! ### items put in place -/
theorem set_perm {xs : List Int} {i : Nat} {v : Int} (h : i < xs.length) : (xs.getD i 0 :: xs.set i v).Perm (v :: xs) := by
  induction xs generalizing i with
  | nil => simp at h
  | cons x r ih =>
    cases i with
    | zero => exact .swap _ _ _
    | succ i =>
      have := ih (i := i) (by simpa using h)
      show (r.getD i 0 :: x :: r.set i v).Perm (v :: x :: r)
      exact (List.Perm.swap _ _ _).trans ((this.cons x).trans (.swap _ _ _))
theorem getD_set {xs : List Int} {i j : Nat} {v : Int} (h : i < xs.length) : (xs.set i v).getD j 0 = if j = i then v else xs.getD j 0 := by
  simp only [List.getD_eq_getElem?_getD, List.getElem?_set]
  by_cases e : i = j
  · subst e; simp [h]
  · simp [e, show ¬ j = i from fun z => e z.symm]
/-- two places exchanged -/
def exch (xs : List Int) (i j : Nat) : List Int := (xs.set i (xs.getD j 0)).set j (xs.getD i 0)
theorem exch_perm {xs : List Int} {i j : Nat} (hi : i < xs.length) (hj : j < xs.length) : (exch xs i j).Perm xs := by
  have h1 := set_perm (xs := xs.set i (xs.getD j 0)) (i := j) (v := xs.getD i 0) (by simpa using hj)
  rw [getD_set hi] at h1
  have h2 := set_perm (xs := xs) (i := i) (v := xs.getD j 0) hi
  have e : (if j = i then xs.getD j 0 else xs.getD j 0) = xs.getD j 0 := by split <;> rfl
  rw [e] at h1
  exact (h1.trans h2).cons_inv
@[simp] theorem exch_len {xs : List Int} {i j : Nat} : (exch xs i j).length = xs.length := by simp [exch]
theorem exch_get {xs : List Int} {i j k : Nat} (hi : i < xs.length) (hj : j < xs.length) : (exch xs i j).getD k 0 = if k = j then xs.getD i 0 else if k = i then xs.getD j 0 else xs.getD k 0 := by
  unfold exch
  rw [getD_set (by simpa using hj), getD_set hi]
/-! ### one value raised -/
theorem dom_set {xs : List Int} {i : Nat} {v : Int} (h : i < xs.length) (hv : xs.getD i 0 ≤ v) : Dom xs (xs.set i v) := by
  refine Dom.of_get (by simp) fun j hj => ?_
  rw [getD_set h]
  split
  · rename_i e; rw [e]; exact hv
  · exact Int.le_refl _
theorem dom_set_add {xs : List Int} {i : Nat} {v : Int} (h : i < xs.length) (hv : xs.getD i 0 ≤ v) : Dom (xs.set i v) (xs.map (· + (v - xs.getD i 0))) := by
  refine Dom.of_get (by simp) fun j hj => ?_
  have hj' : j < xs.length := by simpa using hj
  rw [getD_set h, getD_map hj']
  split
  · rename_i e; rw [e]; omega
  · omega
theorem num_raise {r : Rl} {xs : List Int} {i : Nat} {v : Int} (hr : r.ok xs.length) (h : i < xs.length) (hv : xs.getD i 0 ≤ v) : num r xs ≤ num r (xs.set i v) ∧ num r (xs.set i v) ≤ num r xs + den r xs.length * (v - xs.getD i 0) := by
  refine ⟨num_mono r (dom_set h hv), ?_⟩
  rw [← num_add hr]
  exact num_mono r (dom_set_add h hv)
theorem mem_of_set {xs : List Int} {i : Nat} {v u : Int} (h : u ∈ xs.set i v) : u ∈ xs ∨ u = v := List.mem_or_eq_of_mem_set h
theorem num_tr0 (xs : List Int) : num (.tr 0) xs = xs.sum := by
  show (kept 0 xs).sum = _
  unfold kept
  rw [List.drop_zero, List.take_of_length_le (by simp), sum_perm (srt_prm xs)]
theorem den_tr0 (n : Nat) : den (.tr 0) n = n := rfl
/-- between the kept values -/
theorem num_kept {g : Nat} {xs : List Int} (h : 2 * g < xs.length) : lowV g xs * den (.tr g) xs.length ≤ num (.tr g) xs ∧ num (.tr g) xs ≤ highV g xs * den (.tr g) xs.length := by
  have := sum_bds (xs := kept g xs) fun v hv => mem_kept h hv
  rw [kept_len (by omega)] at this
  exact this
theorem num_wins {g : Nat} {xs : List Int} (h : 2 * g < xs.length) : lowV g xs * den (.wi g) xs.length ≤ num (.wi g) xs ∧ num (.wi g) xs ≤ highV g xs * den (.wi g) xs.length := by
  have lh := low_le_high h
  have := sum_bds (lo := lowV g xs) (hi := highV g xs) (xs := xs.map (clamp (lowV g xs) (highV g xs))) fun v hv => by
    obtain ⟨u, _, rfl⟩ := List.mem_map.mp hv
    unfold clamp
    omega
  rw [clamp_sum h, List.length_map] at this
  exact this
theorem srt_ends {xs : List Int} (h : 0 < xs.length) : ∀ v ∈ xs, (srt xs).getD 0 0 ≤ v ∧ v ≤ (srt xs).getD (xs.length - 1) 0 := fun v hv => by
  obtain ⟨i, hi, e⟩ := mem_getD (mem_srt.mpr hv)
  rw [e]
  simp at hi
  exact ⟨srt_get (srt_srt xs) (by omega) (by simp; omega), srt_get (srt_srt xs) (by omega) (by simp; omega)⟩
theorem low_sub1 {t t' b : Int} (hb : 0 < b) : lowF ((lowF t b).1 * (lowF t' b).2 + -(lowF t' b).1 * (lowF t b).2) ((lowF t b).2 * (lowF t' b).2) = lowF (t - t') b := by
  have h := low_add1 (t := t) (t' := -t') hb
  rw [← low_neg hb] at h
  rw [Int.sub_eq_add_neg]
  exact h
theorem den_le {r : Rl} {n : Nat} (h : r.ok n) (hn : n ≤ 9) : den r n ≤ 18 := by
  cases r with
  | tr g => show n - 2 * g ≤ 18; omega
  | wi g => show n ≤ 18; omega
  | pa => show 4 ≤ 18; omega
  | gr b =>
    have : b ≤ n := Nat.le_of_dvd h.2.1 (Nat.dvd_of_mod_eq_zero h.2.2)
    show 2 * b ≤ 18; omega
end TM

namespace TM
/-! ### runs of integers -/
def seqI (a : Int) (m : Nat) : List Int := (List.range m).map fun (i : Nat) => a + (i : Int)
theorem seqI_succ (a : Int) (m : Nat) : seqI a (m + 1) = a :: seqI (a + 1) m := by
  unfold seqI
  rw [List.range_succ_eq_map, List.map_cons, List.map_map]
  congr 1
  · simp
  · apply List.map_congr_left
    intro i _
    simp only [Function.comp]
    omega
theorem mem_seqI {a v : Int} {m : Nat} : v ∈ seqI a m ↔ a ≤ v ∧ v < a + m := by
  unfold seqI
  simp only [List.mem_map, List.mem_range]
  constructor
  · rintro ⟨i, hi, rfl⟩; omega
  · rintro ⟨h1, h2⟩; exact ⟨(v - a).toNat, by omega, by omega⟩
@[simp] theorem seqI_len (a : Int) (m : Nat) : (seqI a m).length = m := by simp [seqI]
theorem seqI_get {a : Int} {m i : Nat} (h : i < m) : (seqI a m).getD i 0 = a + i := by
  simp [seqI, List.getD_eq_getElem?_getD, h]
theorem seqI_flt {p : Int → Bool} (hp : ∀ x y z, x ≤ y → y ≤ z → p x = true → p z = true → p y = true) : ∀ (m : Nat) (a : Int), ∃ b k, (seqI a m).filter p = seqI b k
  | 0, a => ⟨a, 0, rfl⟩
  | m + 1, a => by
    obtain ⟨b, k, e⟩ := seqI_flt hp m (a + 1)
    rw [seqI_succ, List.filter_cons]
    cases ha : p a with
    | false => exact ⟨b, k, by simpa using e⟩
    | true =>
      cases k with
      | zero => exact ⟨a, 1, by rw [if_pos rfl, e]; simp [seqI]⟩
      | succ k =>
        have hb : b ∈ (seqI (a + 1) m).filter p := by rw [e]; exact mem_seqI.mpr ⟨by omega, by omega⟩
        obtain ⟨hb1, hb2⟩ := List.mem_filter.mp hb
        have hb3 := mem_seqI.mp hb1
        have h1 : a + 1 ∈ (seqI (a + 1) m).filter p := List.mem_filter.mpr ⟨mem_seqI.mpr ⟨by omega, by omega⟩, hp a (a + 1) b (by omega) (by omega) ha hb2⟩
        rw [e] at h1
        have := mem_seqI.mp h1
        have : b = a + 1 := by omega
        refine ⟨a, k + 2, ?_⟩
        rw [if_pos rfl, e, this, ← seqI_succ]
/-! ### one value moved -/
theorem num_set_mono {r : Rl} {xs : List Int} {i : Nat} {u v : Int} (h : i < xs.length) (huv : u ≤ v) : num r (xs.set i u) ≤ num r (xs.set i v) := by
  have := dom_set (xs := xs.set i u) (i := i) (v := v) (by simpa using h) (by rw [getD_set h, if_pos rfl]; exact huv)
  rw [List.set_set] at this
  exact num_mono r this
theorem set_self {xs : List Int} {i : Nat} (h : i < xs.length) : xs.set i (xs.getD i 0) = xs := by
  rw [List.getD_eq_getElem?_getD, List.getElem?_eq_getElem h]
  simp
theorem sum_set {xs : List Int} {i : Nat} {v : Int} (h : i < xs.length) : (xs.set i v).sum = xs.sum + (v - xs.getD i 0) := by
  have := sum_perm (set_perm (v := v) h)
  simp only [List.sum_cons] at this
  omega
theorem low_zero {b : Int} (hb : 0 < b) : lowF 0 b = (0, 1) := by
  rw [← low_one 0, low_eq_iff hb (by omega)]
  simp
theorem put_set {xs : List Int} {i : Nat} {v : Int} (h : i < xs.length) : xs.take i ++ (v :: xs.drop (i + 1)) = xs.set i v := by
  rw [List.set_eq_take_append_cons_drop, if_pos h]
end TM

namespace TM
/-! ### sorted pairs -/
theorem insP_prm (x : Int × Int) : ∀ r : List (Int × Int), (insP x r).Perm (x :: r)
  | [] => .refl _
  | y :: r => by
    unfold insP
    split
    · exact .refl _
    · exact ((insP_prm x r).cons y).trans (.swap x y r)
theorem srtP_prm : ∀ r : List (Int × Int), (srtP r).Perm r
  | [] => .refl _
  | x :: r => (insP_prm x (srtP r)).trans ((srtP_prm r).cons x)
theorem ple_fst {x y : Int × Int} (h : ple x y = true) : x.1 ≤ y.1 := by
  unfold ple at h
  simp at h
  omega
theorem ple_not {x y : Int × Int} (h : ¬ ple x y = true) : y.1 ≤ x.1 := by
  unfold ple at h
  simp at h
  omega
abbrev SrtF (l : List (Int × Int)) : Prop := l.Pairwise fun a b => a.1 ≤ b.1
theorem insP_srt (x : Int × Int) : ∀ r : List (Int × Int), SrtF r → SrtF (insP x r)
  | [], _ => by simp [insP]
  | y :: r, h => by
    have hy := List.pairwise_cons.mp h
    unfold insP
    by_cases q : ple x y = true
    · rw [if_pos q]
      refine List.pairwise_cons.mpr ⟨fun z hz => ?_, h⟩
      rcases List.mem_cons.mp hz with rfl | hz
      · exact ple_fst q
      · exact Int.le_trans (ple_fst q) (hy.1 z hz)
    · rw [if_neg q]
      refine List.pairwise_cons.mpr ⟨fun z hz => ?_, insP_srt x r hy.2⟩
      rcases List.mem_cons.mp ((insP_prm x r).mem_iff.mp hz) with rfl | hz
      · exact ple_not q
      · exact hy.1 z hz
theorem srtP_srt : ∀ r : List (Int × Int), SrtF (srtP r)
  | [] => .nil
  | x :: r => insP_srt x _ (srtP_srt r)
theorem srtP_fst (ps : List (Int × Int)) : (srtP ps).map Prod.fst = srt (ps.map Prod.fst) :=
  srt_unq (((srtP_prm ps).map _).trans (srt_prm _).symm) (List.pairwise_map.mpr (srtP_srt ps)) (srt_srt _)
@[simp] theorem srtP_len (r : List (Int × Int)) : (srtP r).length = r.length := (srtP_prm r).length_eq
/-! ### the places that stay -/
def prL (xs : List Int) : List (Int × Int) := (List.range xs.length).map fun (k : Nat) => (xs.getD k 0, (k : Int))
theorem prL_fst (xs : List Int) : (prL xs).map Prod.fst = xs := by
  unfold prL
  rw [List.map_map]
  apply List.ext_getElem
  · simp
  · intro i h1 h2
    simp [List.getD_eq_getElem?_getD, h2]
theorem mem_prL {xs : List Int} {p : Int × Int} (h : p ∈ prL xs) : ∃ k : Nat, k < xs.length ∧ p = (xs.getD k 0, (k : Int)) := by
  obtain ⟨k, hk, rfl⟩ := List.mem_map.mp h
  exact ⟨k, List.mem_range.mp hk, rfl⟩
@[simp] theorem prL_len (xs : List Int) : (prL xs).length = xs.length := by simp [prL]
def trimQ (xs : List Int) (g : Nat) : List (Int × Int) := ((srtP (prL xs)).drop g).take (xs.length - 2 * g)
def trimP (xs : List Int) (g : Nat) : List Int := (trimQ xs g).map Prod.snd
def trimD (xs : List Int) (g : Nat) : List Int := (srt (trimP xs g)).map fun p => xs.getD p.toNat 0
theorem mem_trimQ {xs : List Int} {g : Nat} {p : Int × Int} (h : p ∈ trimQ xs g) : ∃ k : Nat, k < xs.length ∧ p = (xs.getD k 0, (k : Int)) :=
  mem_prL ((srtP_prm _).mem_iff.mp (List.mem_of_mem_drop (List.mem_of_mem_take h)))
theorem mem_trimP {xs : List Int} {g : Nat} {p : Int} (h : p ∈ trimP xs g) : 0 ≤ p ∧ p < xs.length := by
  obtain ⟨q, hq, rfl⟩ := List.mem_map.mp h
  obtain ⟨k, hk, rfl⟩ := mem_trimQ hq
  simp only
  omega
theorem trimQ_len {xs : List Int} {g : Nat} (h : 2 * g ≤ xs.length) : (trimQ xs g).length = xs.length - 2 * g := by
  simp [trimQ]; omega
theorem trimD_perm (xs : List Int) (g : Nat) : (trimD xs g).Perm (kept g xs) := by
  unfold trimD
  refine ((srt_prm _).map _).trans ?_
  unfold trimP
  rw [List.map_map]
  have e : (trimQ xs g).map ((fun p : Int => xs.getD p.toNat 0) ∘ Prod.snd) = (trimQ xs g).map Prod.fst := by
    apply List.map_congr_left
    intro p hp
    obtain ⟨k, hk, rfl⟩ := mem_trimQ hp
    simp
  rw [e]
  unfold trimQ kept
  rw [List.map_take, List.map_drop, srtP_fst, prL_fst]
theorem trimD_srt {xs : List Int} {g : Nat} : srt (trimD xs g) = kept g xs := by
  rw [srt_of_perm (trimD_perm xs g)]
  exact srt_id (((srt_srt xs).sublist (List.drop_sublist _ _)).sublist (List.take_sublist _ _))
theorem trimD_sum {xs : List Int} {g : Nat} : (trimD xs g).sum = (kept g xs).sum := sum_perm (trimD_perm xs g)
theorem trimD_len {xs : List Int} {g : Nat} (h : 2 * g ≤ xs.length) : (trimD xs g).length = xs.length - 2 * g := by
  rw [(trimD_perm xs g).length_eq, kept_len h]
/-! ### turned over -/
theorem grp_rev {b : Nat} {xs : List Int} (hb : 0 < b) (hd : xs.length % b = 0) : (grp b xs.reverse).Perm (grp b xs) := by
  have e : grp b xs.reverse = (grp b xs).reverse := by
    apply List.ext_getElem
    · simp
    · intro i h1 h2
      have hi : i < xs.length / b := by simpa using h1
      have hm := Nat.div_add_mod xs.length b
      rw [hd, Nat.add_zero, Nat.mul_comm] at hm
      rw [List.getElem_reverse]
      simp only [grp, List.getElem_map, List.getElem_range, List.length_map, List.length_range]
      rw [List.drop_reverse, List.take_reverse, List.sum_reverse, List.drop_take]
      have hk : (i + 1) * b ≤ xs.length / b * b := Nat.mul_le_mul_right b hi
      rw [Nat.add_mul, Nat.one_mul, hm] at hk
      have hj : (xs.length / b - 1 - i) * b = xs.length - i * b - b := by
        rw [Nat.sub_mul, Nat.sub_mul, hm, Nat.one_mul]
        omega
      rw [hj]
      simp only [List.length_take]
      congr 2
      · omega
      · congr 1
        omega
  rw [e]
  exact List.reverse_perm _
theorem num_rev {r : Rl} {xs : List Int} (hr : r.ok xs.length) : num r xs.reverse = num r xs := by
  cases r with
  | tr g => exact num_perm rfl (List.reverse_perm _)
  | wi g => exact num_perm rfl (List.reverse_perm _)
  | pa => exact num_perm rfl (List.reverse_perm _)
  | gr b => exact mid2_perm (grp_rev hr.1 hr.2.2)
end TM

namespace TM
/-! ### sorted pairs are one -/
def pleP (x y : Int × Int) : Prop := x.1 < y.1 ∨ (x.1 = y.1 ∧ x.2 ≤ y.2)
theorem ple_iffP {x y : Int × Int} : ple x y = true ↔ pleP x y := by unfold ple pleP; simp
theorem pleP_total {x y : Int × Int} (h : ¬ pleP x y) : pleP y x := by unfold pleP at *; omega
theorem pleP_trans {x y z : Int × Int} (h : pleP x y) (k : pleP y z) : pleP x z := by unfold pleP at *; omega
theorem pleP_anti {x y : Int × Int} (h : pleP x y) (k : pleP y x) : x = y := by
  unfold pleP at *
  cases x; cases y
  simp only [Prod.mk.injEq]
  simp only at h k
  omega
theorem insP_srt2 (x : Int × Int) : ∀ r : List (Int × Int), r.Pairwise pleP → (insP x r).Pairwise pleP
  | [], _ => by simp [insP]
  | y :: r, h => by
    have hy := List.pairwise_cons.mp h
    unfold insP
    by_cases q : ple x y = true
    · rw [if_pos q]
      refine List.pairwise_cons.mpr ⟨fun z hz => ?_, h⟩
      rcases List.mem_cons.mp hz with rfl | hz
      · exact ple_iffP.mp q
      · exact pleP_trans (ple_iffP.mp q) (hy.1 z hz)
    · rw [if_neg q]
      refine List.pairwise_cons.mpr ⟨fun z hz => ?_, insP_srt2 x r hy.2⟩
      rcases List.mem_cons.mp ((insP_prm x r).mem_iff.mp hz) with rfl | hz
      · exact pleP_total fun z => q (ple_iffP.mpr z)
      · exact hy.1 z hz
theorem srtP_srt2 : ∀ r : List (Int × Int), (srtP r).Pairwise pleP
  | [] => .nil
  | x :: r => insP_srt2 x _ (srtP_srt2 r)
theorem srtP_of_perm {ps qs : List (Int × Int)} (h : ps.Perm qs) : srtP ps = srtP qs :=
  (((srtP_prm ps).trans h).trans (srtP_prm qs).symm).eq_of_pairwise (fun _ _ _ _ h1 h2 => pleP_anti h1 h2) (srtP_srt2 _) (srtP_srt2 _)
/-! ### the groups themselves -/
def chnk (b : Nat) (xs : List Int) : List (List Int) := (List.range (xs.length / b)).map fun i => (xs.drop (i * b)).take b
theorem chnk_sum (b : Nat) (xs : List Int) : (chnk b xs).map List.sum = grp b xs := by
  unfold chnk grp
  rw [List.map_map]
  rfl
@[simp] theorem chnk_length (b : Nat) (xs : List Int) : (chnk b xs).length = xs.length / b := by simp [chnk]
theorem chnk_mem {b : Nat} {xs g : List Int} (hd : xs.length % b = 0) (h : g ∈ chnk b xs) : g.length = b := by
  obtain ⟨i, hi, rfl⟩ := List.mem_map.mp h
  have h1 := List.mem_range.mp hi
  have h2 := Nat.div_add_mod xs.length b
  have h3 : b * (i + 1) ≤ b * (xs.length / b) := Nat.mul_le_mul_left b h1
  rw [Nat.mul_add, Nat.mul_comm b i] at h3
  simp; omega
theorem chnk_flat_take (b : Nat) (xs : List Int) : ∀ m : Nat, ((List.range m).map fun i => (xs.drop (i * b)).take b).flatten = xs.take (m * b)
  | 0 => by simp
  | m + 1 => by
    rw [List.range_succ, List.map_append, List.flatten_append, chnk_flat_take b xs m, Nat.add_mul, Nat.one_mul, List.take_add]
    simp
theorem chnk_flat {b : Nat} {xs : List Int} (hd : xs.length % b = 0) : (chnk b xs).flatten = xs := by
  unfold chnk
  rw [chnk_flat_take]
  have h2 := Nat.div_add_mod xs.length b
  rw [hd, Nat.add_zero, Nat.mul_comm] at h2
  rw [h2, List.take_of_length_le (Nat.le_refl _)]
/-- groups of one length put together -/
theorem drop_flat {b : Nat} : ∀ (gs : List (List Int)) (i : Nat), (∀ g ∈ gs, g.length = b) → gs.flatten.drop (i * b) = (gs.drop i).flatten
  | [], i, _ => by simp
  | g :: gs, 0, _ => by simp
  | g :: gs, i + 1, h => by
    have hg := h g List.mem_cons_self
    rw [List.flatten_cons, Nat.add_mul, Nat.one_mul, Nat.add_comm, ← List.drop_drop, ← hg, List.drop_left]
    rw [hg]
    exact drop_flat gs i fun z hz => h z (List.mem_cons_of_mem _ hz)
theorem chnk_of_flat {b : Nat} (hb : 0 < b) {gs : List (List Int)} (h : ∀ g ∈ gs, g.length = b) : chnk b gs.flatten = gs := by
  have hl : gs.flatten.length = gs.length * b := by
    induction gs with
    | nil => simp
    | cons g gs ih =>
      rw [List.flatten_cons, List.length_append, ih fun z hz => h z (List.mem_cons_of_mem _ hz), h g List.mem_cons_self, List.length_cons, Nat.add_mul]
      omega
  unfold chnk
  rw [hl, Nat.mul_div_cancel _ hb]
  apply List.ext_getElem
  · simp
  · intro i h1 h2
    simp only [List.getElem_map, List.getElem_range]
    rw [drop_flat gs i h, List.drop_eq_getElem_cons h2, List.flatten_cons, ← h gs[i] (List.getElem_mem h2), List.take_left]
/-- two lists exchanged -/
theorem set_perm2 {α : Type} {xs : List α} {i : Nat} {v : α} (h : i < xs.length) : (xs[i] :: xs.set i v).Perm (v :: xs) := by
  induction xs generalizing i with
  | nil => simp at h
  | cons x r ih =>
    cases i with
    | zero => exact .swap _ _ _
    | succ i =>
      have := ih (i := i) (by simpa using h)
      show (r[i]'(by simpa using h) :: x :: r.set i v).Perm (v :: x :: r)
      exact (List.Perm.swap _ _ _).trans ((this.cons x).trans (.swap _ _ _))
theorem swap_perm {α : Type} {xs : List α} {i j : Nat} (hi : i < xs.length) (hj : j < xs.length) : ((xs.set i xs[j]).set j xs[i]).Perm xs := by
  have h1 := set_perm2 (xs := xs.set i xs[j]) (i := j) (v := xs[i]) (by simpa using hj)
  have e : (xs.set i xs[j])[j]'(by simpa using hj) = xs[j] := by
    rw [List.getElem_set]
    split <;> rfl
  rw [e] at h1
  exact (h1.trans (set_perm2 hi)).cons_inv
/-- one put in its place whose sum is the same -/
theorem map_set_sum {gs : List (List Int)} {i : Nat} (h : i < gs.length) : (gs.set i gs[i].reverse).map List.sum = gs.map List.sum := by
  rw [List.map_set, List.sum_reverse]
  apply List.ext_getElem
  · simp
  · intro k h1 h2
    rw [List.getElem_set]
    split
    · rename_i e; subst e; simp
    · rfl
theorem flat_perm {gs hs : List (List Int)} (h : gs.Perm hs) : gs.flatten.Perm hs.flatten := h.flatten
theorem flat_set_rev {gs : List (List Int)} {i : Nat} (h : i < gs.length) : (gs.set i gs[i].reverse).flatten.Perm gs.flatten := by
  have h1 := (set_perm2 (xs := gs) (i := i) (v := gs[i].reverse) h).flatten
  rw [List.flatten_cons, List.flatten_cons] at h1
  have h2 : (gs[i].reverse ++ gs.flatten).Perm (gs[i] ++ gs.flatten) := (List.reverse_perm _).append_right _
  exact (List.perm_append_left_iff _).mp (h1.trans h2)
end TM

namespace TM
/-! ### symmetric data -/
theorem num_sym {r : Rl} {xs : List Int} {c : Int} (hr : r.ok xs.length) (hg : isGr r = false) (h : (xs.map fun v => c - v).Perm xs) : 2 * num r xs = den r xs.length * c := by
  have e : (xs.map fun v => c - v) = (xs.map (· * (-1))).map (· + c) := by
    rw [List.map_map]
    apply List.map_congr_left
    intro v _
    simp only [Function.comp]
    omega
  have h1 := num_perm hg h
  rw [e, num_add (by simpa using hr), num_mul hr, List.length_map] at h1
  omega
theorem sum_sym {xs : List Int} {c : Int} (h : (xs.map fun v => c - v).Perm xs) : 2 * xs.sum = xs.length * c := by
  have e : ∀ l : List Int, (l.map fun v => c - v).sum = l.length * c - l.sum := by
    intro l
    induction l with
    | nil => simp
    | cons x r ih =>
      simp only [List.map_cons, List.sum_cons, List.length_cons, ih]
      rw [Int.natCast_add, Int.add_mul]
      omega
  have := sum_perm h
  rw [e] at this
  omega
theorem low_sym {r : Rl} {xs : List Int} {c : Int} (hr : r.ok xs.length) (hg : isGr r = false) (h0 : 0 < xs.length) (h : (xs.map fun v => c - v).Perm xs) : lowF (num r xs) (den r xs.length) = lowF xs.sum xs.length := by
  rw [low_eq_iff (by have := den_pos hr; omega) (by omega)]
  have h1 := num_sym hr hg h
  have h2 := sum_sym h
  have h3 : 2 * (num r xs * xs.length) = 2 * (xs.sum * den r xs.length) := by
    rw [← Int.mul_assoc, h1, ← Int.mul_assoc, h2]
    simp only [Int.mul_assoc, Int.mul_left_comm, Int.mul_comm]
  omega
theorem low_mid {r : Rl} {xs : List Int} {m : Int} (hr : r.ok xs.length) (hg : isGr r = false) (h : (xs.map fun v => 2 * m - v).Perm xs) : lowF (num r xs) (den r xs.length) = (m, 1) := by
  rw [← low_one, low_eq_iff (by have := den_pos hr; omega) (by omega)]
  have h1 := num_sym hr hg h
  rw [Int.mul_left_comm] at h1
  rw [Int.mul_comm m]
  omega
/-! ### least and greatest -/
theorem minL_eq : ∀ {xs : List Int}, xs ≠ [] → ∃ m, minL xs = some m ∧ m ∈ xs ∧ ∀ v ∈ xs, m ≤ v
  | [x], _ => ⟨x, rfl, by simp, by simp⟩
  | x :: y :: r, _ => by
    obtain ⟨m, e, h1, h2⟩ := minL_eq (xs := y :: r) (by simp)
    refine ⟨if x ≤ m then x else m, ?_, ?_, ?_⟩
    · show (match minL (y :: r) with | none => _ | some m => _) = _
      rw [e]
    · split
      · exact List.mem_cons_self
      · exact List.mem_cons_of_mem _ h1
    · intro v hv
      rcases List.mem_cons.mp hv with rfl | hv
      · split <;> omega
      · have := h2 v hv
        split <;> omega
theorem maxL_eq : ∀ {xs : List Int}, xs ≠ [] → ∃ m, maxL xs = some m ∧ m ∈ xs ∧ ∀ v ∈ xs, v ≤ m
  | [x], _ => ⟨x, rfl, by simp, by simp⟩
  | x :: y :: r, _ => by
    obtain ⟨m, e, h1, h2⟩ := maxL_eq (xs := y :: r) (by simp)
    refine ⟨if m ≤ x then x else m, ?_, ?_, ?_⟩
    · show (match maxL (y :: r) with | none => _ | some m => _) = _
      rw [e]
    · split
      · exact List.mem_cons_self
      · exact List.mem_cons_of_mem _ h1
    · intro v hv
      rcases List.mem_cons.mp hv with rfl | hv
      · split <;> omega
      · have := h2 v hv
        split <;> omega
theorem srt_first {l : List Int} {u : Int} (hu : u ∈ l) (h : ∀ t ∈ l, u ≤ t) : (srt l).getD 0 0 = u := by
  have hp : 0 < l.length := List.length_pos_of_mem hu
  obtain ⟨i, hi, e⟩ := mem_getD (mem_srt.mpr hu)
  simp at hi
  have h1 : (srt l).getD 0 0 ≤ u := by rw [e]; exact srt_get (srt_srt l) (by omega) (by simp; omega)
  have h2 : u ≤ (srt l).getD 0 0 := by
    refine h _ (mem_srt.mp ?_)
    rw [List.getD_eq_getElem?_getD, List.getElem?_eq_getElem (by simpa using hp)]
    exact List.getElem_mem _
  omega
theorem srt_last {l : List Int} {u : Int} (hu : u ∈ l) (h : ∀ t ∈ l, t ≤ u) : (srt l).getD (l.length - 1) 0 = u := by
  have hp : 0 < l.length := List.length_pos_of_mem hu
  obtain ⟨i, hi, e⟩ := mem_getD (mem_srt.mpr hu)
  simp at hi
  have h1 : u ≤ (srt l).getD (l.length - 1) 0 := by rw [e]; exact srt_get (srt_srt l) (by omega) (by simp; omega)
  have h2 : (srt l).getD (l.length - 1) 0 ≤ u := by
    refine h _ (mem_srt.mp ?_)
    rw [List.getD_eq_getElem?_getD, List.getElem?_eq_getElem (by simp; omega)]
    exact List.getElem_mem _
  omega
theorem mem_prs2 {xs : List Int} {v : Int} (h : v ∈ xs) : 2 * v ∈ prs xs := by
  induction xs with
  | nil => cases h
  | cons x r ih =>
    rcases List.mem_cons.mp h with rfl | h
    · exact List.mem_append_left _ (List.mem_map.mpr ⟨v, List.mem_cons_self, by omega⟩)
    · exact List.mem_append_right _ (ih h)
theorem prs_sum : ∀ xs : List Int, (prs xs).sum = xs.sum * (xs.length + 1)
  | [] => rfl
  | x :: r => by
    have e : ∀ l : List Int, (l.map fun y => x + y).sum = l.length * x + l.sum := by
      intro l
      induction l with
      | nil => simp
      | cons y l ih =>
        simp only [List.map_cons, List.sum_cons, List.length_cons, ih]
        rw [Int.natCast_add, Int.add_mul]
        omega
    rw [prs, List.sum_append, e, prs_sum r]
    simp only [List.sum_cons, List.length_cons]
    rw [Int.natCast_add]
    simp only [Int.add_mul, Int.mul_add, Int.mul_comm x]
    omega
end TM

namespace TM
/-! ### how many are below: what the ordered values say -/
def cntB (L : Int) (l : List Int) : Nat := l.countP fun v => decide (v < L)
theorem cntB_perm {L : Int} {l m : List Int} (h : l.Perm m) : cntB L l = cntB L m := h.countP_eq _
theorem srt_cnt {l : List Int} (h : Srt l) {L : Int} {i : Nat} (hi : i < l.length) (hc : cntB L l ≤ i) : L ≤ l.getD i 0 := by
  rcases Int.lt_or_le (l.getD i 0) L with q | q
  · exfalso
    have h1 : (l.take (i + 1)).countP (fun v => decide (v < L)) = i + 1 := by
      have hl : (l.take (i + 1)).length = i + 1 := by simp; omega
      refine (List.countP_eq_length.mpr fun v hv => ?_).trans hl
      obtain ⟨k, hk, hk2, e⟩ := mem_take_getD hv
      have := srt_get h (i := k) (j := i) (by omega) hi
      simp
      omega
    have h2 : cntB L l = (l.take (i + 1)).countP (fun v => decide (v < L)) + (l.drop (i + 1)).countP (fun v => decide (v < L)) := by
      unfold cntB
      rw [← List.countP_append, List.take_append_drop]
    omega
  · exact q
/-- at most i below: the value at place i is not below -/
theorem low_cnt {l : List Int} {L : Int} {i : Nat} (hi : i < l.length) (hc : cntB L l ≤ i) : L ≤ (srt l).getD i 0 :=
  srt_cnt (srt_srt l) (by simpa using hi) (by rw [cntB_perm (srt_prm l)]; exact hc)
theorem cntB_neg {l : List Int} {L : Int} : cntB (-L) (l.map fun v => -v) = l.countP fun v => decide (L < v) := by
  unfold cntB
  rw [List.countP_map]
  apply List.countP_congr
  intro v _
  simp only [Function.comp, decide_eq_true_eq]
  omega
def cntA (L : Int) (l : List Int) : Nat := l.countP fun v => decide (L < v)
theorem high_cnt {l : List Int} {L : Int} {i : Nat} (hi : i < l.length) (hc : cntA L l ≤ i) : (srt l).getD (l.length - 1 - i) 0 ≤ L := by
  have h1 := low_cnt (l := l.map fun v => -v) (L := -L) (i := i) (by simpa using hi) (by rw [cntB_neg]; exact hc)
  rw [srt_anti (fun a b h => by omega)] at h1
  have e : ((srt l).map fun v => -v).reverse.getD i 0 = -((srt l).getD (l.length - 1 - i) 0) := by
    rw [← getD_map (f := fun v => -v) (by simp; omega)]
    simp only [List.getD_eq_getElem?_getD]
    rw [List.getElem?_reverse (by simpa using hi)]
    congr 2
    simp
  rw [e] at h1
  omega
/-! ### pairs -/
theorem cnt_pairs {L : Int} : ∀ xs : List Int, 2 * (prs xs).countP (fun t => decide (2 * L ≤ t)) ≥ (xs.countP fun v => decide (L ≤ v)) * ((xs.countP fun v => decide (L ≤ v)) + 1)
  | [] => by simp [prs]
  | x :: r => by
    have ih := cnt_pairs (L := L) r
    rw [prs, List.countP_append]
    by_cases hx : L ≤ x
    · have e : (x :: r).countP (fun v => decide (L ≤ v)) = r.countP (fun v => decide (L ≤ v)) + 1 := by
        rw [List.countP_cons_of_pos (by simpa using hx)]
      have h1 : (x :: r).countP (fun v => decide (L ≤ v)) ≤ ((x :: r).map fun y => x + y).countP (fun t => decide (2 * L ≤ t)) := by
        rw [List.countP_map]
        refine List.countP_mono_left fun v _ hv => ?_
        simp only [Function.comp, decide_eq_true_eq] at *
        omega
      rw [e] at h1 ⊢
      generalize r.countP (fun v => decide (L ≤ v)) = c at *
      generalize ((x :: r).map fun y => x + y).countP (fun t => decide (2 * L ≤ t)) = a at *
      generalize (prs r).countP (fun t => decide (2 * L ≤ t)) = b at *
      have e2 : (c + 1) * (c + 1 + 1) = c * (c + 1) + 2 * (c + 1) := by
        simp only [Nat.add_mul, Nat.mul_add]
        omega
      rw [e2]
      omega
    · have e : (x :: r).countP (fun v => decide (L ≤ v)) = r.countP (fun v => decide (L ≤ v)) := by
        rw [List.countP_cons_of_neg (by simpa using hx)]
      rw [e]
      omega
theorem cnt_split {L : Int} (l : List Int) : cntB L l + l.countP (fun v => decide (L ≤ v)) = l.length := by
  unfold cntB
  induction l with
  | nil => rfl
  | cons x r ih =>
    by_cases h : x < L
    · rw [List.countP_cons_of_pos (by simpa using h), List.countP_cons_of_neg (by simp; omega), List.length_cons]
      omega
    · rw [List.countP_cons_of_neg (by simpa using h), List.countP_cons_of_pos (by simp; omega), List.length_cons]
      omega
end TM

namespace TM
/-- how many of so many values pairs bear -/
def pb (n : Nat) : Nat := [0, 0, 0, 0, 1, 1, 1, 2, 2, 2].getD n 0
def bear (r : Rl) (n : Nat) : Nat := match r with
  | .tr g => g
  | .wi g => g
  | .pa => pb n
  | .gr b => (n / b - 1) / 2
/-- a rule that goes by the values alone -/
def plainR : Rl → Bool
  | .gr b => b == 1
  | _ => true
theorem pair_few {n c : Nat} (h0 : 1 ≤ n) (h9 : n ≤ 9) (hc : c ≤ pb n) : 2 * (n * (n + 1)) - 2 * ((n - c) * (n - c + 1)) + 2 ≤ n * (n + 1) + (n * (n + 1) % 2) := by
  have e : n = 1 ∨ n = 2 ∨ n = 3 ∨ n = 4 ∨ n = 5 ∨ n = 6 ∨ n = 7 ∨ n = 8 ∨ n = 9 := by omega
  rcases e with rfl | rfl | rfl | rfl | rfl | rfl | rfl | rfl | rfl <;> simp only [pb, List.getD_eq_getElem?_getD, List.getElem?_cons_succ, List.getElem?_cons_zero, Option.getD_some] at hc
  · have : c = 0 := by omega
    subst this; decide
  · have : c = 0 := by omega
    subst this; decide
  · have : c = 0 := by omega
    subst this; decide
  · have : c = 0 ∨ c = 1 := by omega
    rcases this with rfl | rfl <;> decide
  · have : c = 0 ∨ c = 1 := by omega
    rcases this with rfl | rfl <;> decide
  · have : c = 0 ∨ c = 1 := by omega
    rcases this with rfl | rfl <;> decide
  · have : c = 0 ∨ c = 1 ∨ c = 2 := by omega
    rcases this with rfl | rfl | rfl <;> decide
  · have : c = 0 ∨ c = 1 ∨ c = 2 := by omega
    rcases this with rfl | rfl | rfl <;> decide
  · have : c = 0 ∨ c = 1 ∨ c = 2 := by omega
    rcases this with rfl | rfl | rfl <;> decide
theorem mid2_low {l : List Int} {L : Int} (h0 : 0 < l.length) (hc : cntB L l ≤ (l.length - 1) / 2) : 2 * L ≤ mid2 l := by
  have h1 := low_cnt (l := l) (L := L) (i := (l.length - 1) / 2) (by omega) hc
  have h2 := low_cnt (l := l) (L := L) (i := l.length / 2) (by omega) (by omega)
  unfold mid2
  omega
theorem borne_low {r : Rl} {ws : List Int} {L : Int} (hr : r.ok ws.length) (h9 : ws.length ≤ 9) (hp : plainR r = true) (hc : cntB L ws ≤ bear r ws.length) : L * den r ws.length ≤ num r ws := by
  cases r with
  | tr g =>
    have hr : 2 * g < ws.length := hr
    have h1 : L ≤ lowV g ws := low_cnt (by omega) hc
    have h2 := num_kept hr
    have h3 := Int.mul_le_mul_of_nonneg_right h1 (Int.natCast_nonneg (den (.tr g) ws.length))
    omega
  | wi g =>
    have hr : 2 * g < ws.length := hr
    have h1 : L ≤ lowV g ws := low_cnt (by omega) hc
    have h2 := num_wins hr
    have h3 := Int.mul_le_mul_of_nonneg_right h1 (Int.natCast_nonneg (den (.wi g) ws.length))
    omega
  | pa =>
    have hr : 0 < ws.length := hr
    have hc : cntB L ws ≤ pb ws.length := hc
    have h1 := cnt_pairs (L := L) ws
    have h2 := cnt_split (L := L) ws
    have h3 := cnt_split (L := 2 * L) (prs ws)
    have h4 := prs_len ws
    have h5 := pair_few hr h9 hc
    have h6 : (ws.countP fun v => decide (L ≤ v)) = ws.length - cntB L ws := by omega
    rw [h6] at h1
    have h7 := mid2_low (l := prs ws) (L := 2 * L) (prs_ne hr) (by
      generalize (ws.length - cntB L ws) * (ws.length - cntB L ws + 1) = x at *
      generalize ws.length * (ws.length + 1) = y at *
      omega)
    show L * 4 ≤ mid2 (prs ws)
    omega
  | gr b =>
    have hb : b = 1 := by simpa [plainR] using hp
    subst hb
    have hr0 := hr.2.1
    have hc : cntB L ws ≤ (ws.length / 1 - 1) / 2 := hc
    rw [Nat.div_one] at hc
    show L * 2 ≤ mid2 (grp 1 ws)
    rw [grp_one]
    have := mid2_low (l := ws) (L := L) hr0 hc
    omega
theorem borne_high {r : Rl} {ws : List Int} {U : Int} (hr : r.ok ws.length) (h9 : ws.length ≤ 9) (hp : plainR r = true) (hc : cntA U ws ≤ bear r ws.length) : num r ws ≤ U * den r ws.length := by
  have e : (ws.map fun v => -v) = ws.map (· * (-1)) := List.map_congr_left fun v _ => by omega
  have h := borne_low (r := r) (ws := ws.map fun v => -v) (L := -U) (by simpa using hr) (by simpa using h9) hp (by rw [cntB_neg, List.length_map]; exact hc)
  rw [e, num_mul hr, List.length_map, Int.neg_mul] at h
  omega
end TM

namespace TM
/-! ### the least value replaced, again and again -/
/-- the first place of a value -/
def fstI (v : Int) : List Int → Option Nat
  | [] => none
  | x :: r => if x = v then some 0 else (fstI v r).map (· + 1)
def mput (v : Int) (ys : List Int) : List Int := match minL ys with
  | none => ys
  | some m => match fstI m ys with
    | none => ys
    | some j => ys.set j v
def putM (v : Int) (xs : List Int) : Nat → List Int
  | 0 => xs
  | k + 1 => mput v (putM v xs k)
theorem fstI_mem {v : Int} : ∀ {l : List Int}, v ∈ l → ∃ j, fstI v l = some j ∧ j < l.length ∧ l.getD j 0 = v
  | [], h => nomatch h
  | x :: r, h => by
    unfold fstI
    by_cases e : x = v
    · exact ⟨0, by rw [if_pos e], by simp, by simpa using e⟩
    · rcases List.mem_cons.mp h with z | z
      · exact absurd z.symm e
      · obtain ⟨j, h1, h2, h3⟩ := fstI_mem z
        exact ⟨j + 1, by rw [if_neg e, h1]; rfl, by simpa using h2, by simpa using h3⟩
@[simp] theorem mput_len {v : Int} {ys : List Int} : (mput v ys).length = ys.length := by
  unfold mput
  split
  · rfl
  · split
    · rfl
    · simp
@[simp] theorem putM_len {v : Int} {xs : List Int} : ∀ {k : Nat}, (putM v xs k).length = xs.length
  | 0 => rfl
  | k + 1 => by unfold putM; rw [mput_len, putM_len]
theorem mput_eq {v : Int} {ys : List Int} (h : ys ≠ []) : ∃ m j, minL ys = some m ∧ fstI m ys = some j ∧ j < ys.length ∧ ys.getD j 0 = m ∧ (∀ u ∈ ys, m ≤ u) ∧ mput v ys = ys.set j v := by
  obtain ⟨m, e, h1, h2⟩ := minL_eq h
  obtain ⟨j, h3, h4, h5⟩ := fstI_mem h1
  refine ⟨m, j, e, h3, h4, h5, h2, ?_⟩
  unfold mput
  rw [e]
  simp only [h3]
theorem cntA_set {ys : List Int} {j : Nat} {v : Int} (hj : j < ys.length) (h1 : ys.getD j 0 ≤ 99) (h2 : 99 < v) : cntA 99 (ys.set j v) = cntA 99 ys + 1 := by
  have hp := (set_perm (v := v) hj).countP_eq (fun u => decide (99 < u))
  rw [List.countP_cons_of_neg (by rw [decide_eq_true_eq]; omega), List.countP_cons_of_pos (by rw [decide_eq_true_eq]; omega)] at hp
  exact hp
theorem cntA_lt {ys : List Int} {m : Int} (h : cntA 99 ys < ys.length) (hm : ∀ u ∈ ys, m ≤ u) : m ≤ 99 := by
  rcases Int.lt_or_le 99 m with q | q
  · exfalso
    have : cntA 99 ys = ys.length := List.countP_eq_length.mpr fun u hu => by have := hm u hu; simp; omega
    omega
  · exact q
theorem putM_cnt {v : Int} {xs : List Int} (hv : 99 < v) (hx : ∀ u ∈ xs, u ≤ 99) : ∀ {k : Nat}, k ≤ xs.length → cntA 99 (putM v xs k) = k
  | 0, _ => List.countP_eq_zero.mpr fun u hu => by have := hx u hu; simp; omega
  | k + 1, h => by
    have ih := putM_cnt hv hx (k := k) (by omega)
    have hne : putM v xs k ≠ [] := fun z => by
      have := congrArg List.length z
      rw [putM_len, List.length_nil] at this
      omega
    obtain ⟨m, j, h1, h2, h3, h4, h5, h6⟩ := mput_eq (v := v) hne
    have hm : m ≤ 99 := cntA_lt (ys := putM v xs k) (by rw [ih]; simp; omega) h5
    unfold putM
    rw [h6, cntA_set h3 (by omega) hv, ih]
theorem putM_mem {v : Int} {xs : List Int} : ∀ {k : Nat} {u : Int}, u ∈ putM v xs k → u ∈ xs ∨ u = v
  | 0, u, h => .inl h
  | k + 1, u, h => by
    unfold putM mput at h
    split at h
    · exact putM_mem h
    · split at h
      · exact putM_mem h
      · rcases mem_of_set h with q | q
        · exact putM_mem q
        · exact .inr q
/-- another great value in the place of a great value -/
def swp (u v x : Int) : Int := if x = u then v else x
theorem fstI_map {f : Int → Int} {m : Int} : ∀ {l : List Int}, (∀ x ∈ l, f x = f m ↔ x = m) → fstI (f m) (l.map f) = fstI m l
  | [], _ => rfl
  | x :: r, h => by
    rw [List.map_cons]
    unfold fstI
    by_cases e : x = m
    · rw [if_pos e, if_pos (by rw [e])]
    · rw [if_neg e, if_neg (fun z => e ((h x List.mem_cons_self).mp z)), fstI_map fun y hy => h y (List.mem_cons_of_mem _ hy)]
theorem putM_swp {u v : Int} {xs : List Int} (hu : 99 < u) (hv : 99 < v) (hx : ∀ w ∈ xs, w ≤ 99) : ∀ {k : Nat}, k ≤ xs.length → (putM u xs k).map (swp u v) = putM v xs k
  | 0, _ => by
    show xs.map (swp u v) = xs
    refine map_id_of fun w hw => ?_
    have := hx w hw
    unfold swp
    rw [if_neg (by omega)]
  | k + 1, h => by
    have ih := putM_swp hu hv hx (k := k) (by omega)
    have hc := putM_cnt hu hx (k := k) (by omega)
    have hne : putM u xs k ≠ [] := fun z => by
      have := congrArg List.length z
      rw [putM_len, List.length_nil] at this
      omega
    obtain ⟨m, j, h1, h2, h3, h4, h5, h6⟩ := mput_eq (v := u) hne
    have hm : m ≤ 99 := cntA_lt (ys := putM u xs k) (by rw [hc]; simp; omega) h5
    have hne2 : putM v xs k ≠ [] := fun z => by
      have := congrArg List.length z
      rw [putM_len, List.length_nil] at this
      omega
    obtain ⟨m2, j2, g1, g2, g3, g4, g5, g6⟩ := mput_eq (v := v) hne2
    have hfm : swp u v m = m := by unfold swp; rw [if_neg (by omega)]
    have hmem : m ∈ putM v xs k := by
      rw [← ih]
      refine List.mem_map.mpr ⟨m, ?_, hfm⟩
      rw [← h4, List.getD_eq_getElem?_getD, List.getElem?_eq_getElem h3]
      exact List.getElem_mem h3
    have hm2 : m2 = m := by
      have a1 := g5 m hmem
      have : m ≤ m2 := by
        have hm2mem : m2 ∈ putM v xs k := by
          rw [← g4, List.getD_eq_getElem?_getD, List.getElem?_eq_getElem g3]
          exact List.getElem_mem g3
        rw [← ih] at hm2mem
        obtain ⟨w, hw, e⟩ := List.mem_map.mp hm2mem
        have := h5 w hw
        unfold swp at e
        split at e <;> omega
      omega
    have hj : j2 = j := by
      rw [hm2] at g2
      have := fstI_map (f := swp u v) (m := m) (l := putM u xs k) fun x hx' => by
        constructor
        · intro z
          rw [hfm] at z
          unfold swp at z
          split at z
          · omega
          · exact z
        · intro z; rw [z]
      rw [hfm, ih, g2, h2] at this
      exact Option.some.inj this
    unfold putM
    rw [h6, g6, List.map_set, ih, hj]
    congr 1
    unfold swp
    rw [if_pos rfl]
end TM

namespace TM
/-! ### one more than borne: above each limit -/
theorem sum_ge_mem {x : Int} : ∀ {l : List Int}, x ∈ l → (∀ u ∈ l, -99 ≤ u) → x - 99 * ((l.length : Int) - 1) ≤ l.sum
  | y :: r, h, hl => by
    have hs := sum_bds (lo := -99) (hi := r.sum + 99 * r.length + 1000000000) (xs := r)
    have low : ∀ {m : List Int}, (∀ u ∈ m, -99 ≤ u) → -(99 * (m.length : Int)) ≤ m.sum := by
      intro m
      induction m with
      | nil => intro _; simp
      | cons z m ih =>
        intro hm
        have h1 := hm z List.mem_cons_self
        have h2 := ih fun u hu => hm u (List.mem_cons_of_mem _ hu)
        simp only [List.sum_cons, List.length_cons]
        omega
    simp only [List.sum_cons, List.length_cons]
    rcases List.mem_cons.mp h with rfl | h
    · have := low (m := r) fun u hu => hl u (List.mem_cons_of_mem _ hu)
      omega
    · have h1 := hl y List.mem_cons_self
      have h2 := sum_ge_mem h fun u hu => hl u (List.mem_cons_of_mem _ hu)
      omega
theorem highV_mem {g : Nat} {xs : List Int} (h : 2 * g < xs.length) : highV g xs ∈ kept g xs := by
  unfold kept highV
  refine List.mem_iff_getElem.mpr ⟨xs.length - 2 * g - 1, by simp; omega, ?_⟩
  simp only [List.getElem_take, List.getElem_drop]
  rw [List.getD_eq_getElem?_getD, List.getElem?_eq_getElem (by simp; omega)]
  simp only [Option.getD_some]
  congr 1
  omega
theorem cnt_pairs_up {v : Int} (hv : 99 < v) : ∀ xs : List Int, (∀ u ∈ xs, -99 ≤ u) → 2 * cntB (v - 99) (prs xs) ≤ cntB v xs * (cntB v xs + 1)
  | [], _ => by simp [prs, cntB]
  | x :: r, h => by
    have hx := h x List.mem_cons_self
    have hr : ∀ u ∈ r, -99 ≤ u := fun u hu => h u (List.mem_cons_of_mem _ hu)
    have ih := cnt_pairs_up hv r hr
    unfold cntB at *
    rw [prs, List.countP_append]
    by_cases q : x < v
    · have e : (x :: r).countP (fun u => decide (u < v)) = r.countP (fun u => decide (u < v)) + 1 := by rw [List.countP_cons_of_pos (by simpa using q)]
      have h1 : ((x :: r).map fun y => x + y).countP (fun t => decide (t < v - 99)) ≤ (x :: r).countP (fun u => decide (u < v)) := by
        rw [List.countP_map]
        refine List.countP_mono_left fun u hu hv2 => ?_
        simp only [Function.comp, decide_eq_true_eq] at *
        omega
      rw [e] at h1 ⊢
      generalize r.countP (fun u => decide (u < v)) = c at *
      generalize ((x :: r).map fun y => x + y).countP (fun t => decide (t < v - 99)) = a at *
      generalize (prs r).countP (fun t => decide (t < v - 99)) = b at *
      have e2 : (c + 1) * (c + 1 + 1) = c * (c + 1) + 2 * (c + 1) := by
        simp only [Nat.add_mul, Nat.mul_add]
        omega
      rw [e2]
      omega
    · have e : (x :: r).countP (fun u => decide (u < v)) = r.countP (fun u => decide (u < v)) := by rw [List.countP_cons_of_neg (by simpa using q)]
      have h1 : ((x :: r).map fun y => x + y).countP (fun t => decide (t < v - 99)) = 0 := by
        refine List.countP_eq_zero.mpr fun t ht => ?_
        obtain ⟨y, hy, rfl⟩ := List.mem_map.mp ht
        have := h y hy
        rw [decide_eq_true_eq]
        omega
      rw [e, h1]
      omega
theorem pair_many {n c : Nat} (h0 : 1 ≤ n) (h9 : n ≤ 9) (hc : c ≤ n - (pb n + 1)) : 2 * (c * (c + 1)) ≤ n * (n + 1) := by
  have e : n = 1 ∨ n = 2 ∨ n = 3 ∨ n = 4 ∨ n = 5 ∨ n = 6 ∨ n = 7 ∨ n = 8 ∨ n = 9 := by omega
  have k : ∀ q : Nat, c ≤ q → c * (c + 1) ≤ q * (q + 1) := fun q h => Nat.mul_le_mul h (by omega)
  rcases e with rfl | rfl | rfl | rfl | rfl | rfl | rfl | rfl | rfl <;> simp only [pb, List.getD_eq_getElem?_getD, List.getElem?_cons_succ, List.getElem?_cons_zero, Option.getD_some] at hc
  · have := k 0 (by omega); omega
  · have := k 1 (by omega); omega
  · have := k 2 (by omega); omega
  · have := k 2 (by omega); omega
  · have := k 3 (by omega); omega
  · have := k 4 (by omega); omega
  · have := k 4 (by omega); omega
  · have := k 5 (by omega); omega
  · have := k 6 (by omega); omega
theorem great_plain {r : Rl} {ys : List Int} (hg : isGr r = false) (hr : r.ok ys.length) (h9 : ys.length ≤ 9) (hl : ∀ u ∈ ys, -99 ≤ u) (hc : cntB 1000000 ys ≤ ys.length - (bear r ys.length + 1)) : 100000 * (den r ys.length : Int) < num r ys := by
  cases r with
  | tr g =>
    have hr : 2 * g < ys.length := hr
    have hc : cntB 1000000 ys ≤ ys.length - (g + 1) := hc
    have h1 : 1000000 ≤ highV g ys := low_cnt (i := ys.length - 1 - g) (by omega) (by omega)
    have h2 := sum_ge_mem (highV_mem hr) fun u hu => hl u (by unfold kept at hu; exact mem_srt.mp (List.mem_of_mem_drop (List.mem_of_mem_take hu)))
    rw [kept_len (by omega)] at h2
    show 100000 * ((ys.length - 2 * g : Nat) : Int) < (kept g ys).sum
    omega
  | wi g =>
    have hr : 2 * g < ys.length := hr
    have hc : cntB 1000000 ys ≤ ys.length - (g + 1) := hc
    have h1 : 1000000 ≤ highV g ys := low_cnt (i := ys.length - 1 - g) (by omega) (by omega)
    have h2 := sum_ge_mem (highV_mem hr) fun u hu => hl u (by unfold kept at hu; exact mem_srt.mp (List.mem_of_mem_drop (List.mem_of_mem_take hu)))
    rw [kept_len (by omega)] at h2
    have h3 : -99 ≤ lowV g ys := by
      have hm : lowV g ys ∈ srt ys := by
        unfold lowV
        rw [List.getD_eq_getElem?_getD, List.getElem?_eq_getElem (by simp; omega)]
        exact List.getElem_mem _
      exact hl _ (mem_srt.mp hm)
    have hg4 : g ≤ 4 := by omega
    have h4 : -(99 * 4) ≤ (g : Int) * lowV g ys := by
      have := Int.mul_le_mul_of_nonneg_left h3 (Int.natCast_nonneg g)
      omega
    have h5 : 0 ≤ (g : Int) * highV g ys := Int.mul_nonneg (Int.natCast_nonneg g) (by omega)
    show 100000 * (ys.length : Int) < (g : Int) * lowV g ys + (kept g ys).sum + (g : Int) * highV g ys
    omega
  | pa =>
    have hr : 0 < ys.length := hr
    have hc : cntB 1000000 ys ≤ ys.length - (pb ys.length + 1) := hc
    have h1 := cnt_pairs_up (v := 1000000) (by omega) ys hl
    have h2 := pair_many hr h9 hc
    have h3 := prs_len ys
    have h4 : (1000000 : Int) - 99 ≤ (srt (prs ys)).getD ((prs ys).length / 2) 0 := low_cnt (by have := prs_ne hr; omega) (by
      generalize cntB 1000000 ys * (cntB 1000000 ys + 1) = a at *
      generalize ys.length * (ys.length + 1) = b at *
      omega)
    have h5 : -198 ≤ (srt (prs ys)).getD (((prs ys).length - 1) / 2) 0 := by
      have hm : (srt (prs ys)).getD (((prs ys).length - 1) / 2) 0 ∈ srt (prs ys) := by
        rw [List.getD_eq_getElem?_getD, List.getElem?_eq_getElem (by have := prs_ne hr; simp; omega)]
        exact List.getElem_mem _
      have low : ∀ {l : List Int}, (∀ u ∈ l, -99 ≤ u) → ∀ t ∈ prs l, -198 ≤ t := by
        intro l
        induction l with
        | nil => intro _ t ht; cases ht
        | cons x r ih =>
          intro h t ht
          rcases List.mem_append.mp ht with q | q
          · obtain ⟨y, hy, rfl⟩ := List.mem_map.mp q
            have := h y hy
            have := h x List.mem_cons_self
            omega
          · exact ih (fun u hu => h u (List.mem_cons_of_mem _ hu)) t q
      exact low hl _ (mem_srt.mp hm)
    show 100000 * 4 < mid2 (prs ys)
    unfold mid2
    omega
  | gr b => cases hg
end TM

namespace TM
open PySem
/-! ### rules for stepping through a body by simp -/
def mtC (l : List Str) (x : Str) : Bool := l.contains x
/-! what is done with a value: named, so that simp does not look into it -/
def bv (z : Bool) : RV := .val (.bool z)
@[simp] theorem bv_eq {z : Bool} : bv z = .val (.bool z) := id rfl
def binC2 (op : Operator) (x y : RV) (w : Wd) : R RV := R.of (binop op x y) w
def binC1 (f : EvF) (op : Operator) (b : Expr) (x : RV) (w : Wd) : R RV := (f b w).bind (binC2 op x)
@[simp] theorem binC2_eq {op x y w} : binC2 op x y w = R.of (binop op x y) w := id rfl
@[simp] theorem binC1_eq {f op b x w} : binC1 f op b x w = (f b w).bind (binC2 op x) := id rfl
def unC (op : UnaryOp) (x : RV) (w : Wd) : R RV := R.of (unop op x) w
@[simp] theorem unC_eq {op x w} : unC op x w = R.of (unop op x) w := id rfl
def cmpC2 (op : CmpOp) (x y : RV) (w : Wd) : R RV := R.of ((cmpop op x y).map bv) w
def cmpC1 (f : EvF) (op : CmpOp) (b : Expr) (x : RV) (w : Wd) : R RV := (f b w).bind (cmpC2 op x)
@[simp] theorem cmpC2_eq {op x y w} : cmpC2 op x y w = R.of ((cmpop op x y).map bv) w := id rfl
@[simp] theorem cmpC1_eq {f op b x w} : cmpC1 f op b x w = (f b w).bind (cmpC2 op x) := id rfl
def cmp2C3 (f : EvF) (op : CmpOp) (c : Expr) (y : RV) (z : Bool) (w : Wd) : R RV := if z = true then (f c w).bind (cmpC2 op y) else .ok (.val (.bool false)) w
def cmp2C2 (f : EvF) (op op' : CmpOp) (c : Expr) (x y : RV) (w : Wd) : R RV := (R.of (cmpop op x y) w).bind (cmp2C3 f op' c y)
def cmp2C1 (f : EvF) (op op' : CmpOp) (b c : Expr) (x : RV) (w : Wd) : R RV := (f b w).bind (cmp2C2 f op op' c x)
@[simp] theorem cmp2C3_eq {f op c y z w} : cmp2C3 f op c y z w = if z = true then (f c w).bind (cmpC2 op y) else .ok (.val (.bool false)) w := id rfl
@[simp] theorem cmp2C2_eq {f op op' c x y w} : cmp2C2 f op op' c x y w = (R.of (cmpop op x y) w).bind (cmp2C3 f op' c y) := id rfl
@[simp] theorem cmp2C1_eq {f op op' b c x w} : cmp2C1 f op op' b c x w = (f b w).bind (cmp2C2 f op op' c x) := id rfl
def nxtC (s : Sl) (w : Wd) : R Out := .ok (.nxt s) w
@[simp] theorem nxtC_eq {s w} : nxtC s w = .ok (.nxt s) w := id rfl
def ifC (n : Nat) (G : Cn) (A B : List Stmt) (s : Sl) (z : Bool) (w : Wd) : R Out := if z = true then TM.execs (ex n G) A s w else TM.execs (ex n G) B s w
@[simp] theorem ifC_eq {n G A B s z w} : ifC n G A B s z w = if z = true then TM.execs (ex n G) A s w else TM.execs (ex n G) B s w := id rfl
def boolC (x : RV) (w : Wd) : R Bool := R.of (boolOf x) w
@[simp] theorem boolC_eq {x w} : boolC x w = R.of (boolOf x) w := id rfl
def evsC2 (v : RV) (vs : List RV) (w : Wd) : R (List RV) := .ok (v :: vs) w
def evsC1 (f : EvF) (es : List Expr) (v : RV) (w : Wd) : R (List RV) := (evsW f es w).bind (evsC2 v)
@[simp] theorem evsC2_eq {v vs w} : evsC2 v vs w = .ok (v :: vs) w := id rfl
@[simp] theorem evsC1_eq {f es v w} : evsC1 f es v w = (evsW f es w).bind (evsC2 v) := id rfl
def cndF (G : Cn) (t : Expr) (s : Sl) (w : Wd) : R Bool := tstW (ev evF G s) t w
def bdyF (n : Nat) (G : Cn) (A : List Stmt) (s : Sl) (w : Wd) : R Out := TM.execs (ex n G) A s w
theorem cndF_eq {G t s w} : cndF G t s w = tstW (ev evF G s) t w := rfl
theorem bdyF_eq {n G A s w} : bdyF n G A s w = TM.execs (ex n G) A s w := rfl
section
variable {n : Nat} {G : Cn} {s : Sl} {w : Wd} {a b e t : Expr} {es as : List Expr} {p q r : Pos} {x : Str}
@[simp] theorem evF_eq : evF = 40 := id rfl
@[simp] theorem exF_eq : exF = 12 := id rfl
@[simp] theorem ev_Constant {c k} : ev (n + 1) G s (.Constant c k p) w = cstW c w := id rfl
@[simp] theorem ev_Name : ev (n + 1) G s (.Name x p) w = nameW G x s w := id rfl
@[simp] theorem ev_BinOp {op} : ev (n + 1) G s (.BinOp a op b p) w = (ev n G s a w).bind (binC1 (ev n G s) op b) := id rfl
@[simp] theorem ev_UnaryOp {op} : ev (n + 1) G s (.UnaryOp op a p) w = (ev n G s a w).bind (unC op) := id rfl
@[simp] theorem ev_And : ev (n + 1) G s (.BoolOp .And es p) w = andW (ev n G s) es w := id rfl
@[simp] theorem ev_Or : ev (n + 1) G s (.BoolOp .Or es p) w = orW (ev n G s) es w := id rfl
@[simp] theorem ev_IfExp : ev (n + 1) G s (.IfExp t a b p) w = ifW (ev n G s) t a b w := id rfl
@[simp] theorem ev_Compare1 {op} : ev (n + 1) G s (.Compare a [op] [b] p) w = (ev n G s a w).bind (cmpC1 (ev n G s) op b) := id rfl
@[simp] theorem ev_Tuple {k} : ev (n + 1) G s (.Tuple es k p) w = tupW (ev n G s) es w := id rfl
@[simp] theorem ev_List : ev (n + 1) G s (.List es p) w = lstW (ev n G s) es w := id rfl
/-! dicts: what is one -/
def dctS (j : Nat) (o : Option (Option RV)) : Option (Nat × Dct) := match o with
  | some (some (.bor ds)) => (decL ds).map fun ps => (j, ps)
  | _ => none
@[simp] theorem dctS_n {j} : dctS j none = none := id rfl
@[simp] theorem dctS_sn {j} : dctS j (some none) = none := id rfl
@[simp] theorem dctS_v {j d} : dctS j (some (some (.val d))) = none := id rfl
@[simp] theorem dctS_o {j d} : dctS j (some (some (.own d))) = none := id rfl
@[simp] theorem dctS_b {j ds} : dctS j (some (some (.bor ds))) = (decL ds).map fun ps => (j, ps) := id rfl
@[simp] theorem isDct_Name : isDct G (.Name x p) s = match idx G.N x with
  | some j => dctS j s[j]?
  | none => none := id rfl
@[simp] theorem isDct_Cst {c k} : isDct G (.Constant c k p) s = none := id rfl
@[simp] theorem isDct_Call {g ks} : isDct G (.Call g as ks p) s = none := id rfl
@[simp] theorem isDct_Sub : isDct G (.Subscript a b p) s = none := id rfl
@[simp] theorem isDct_Bin {op} : isDct G (.BinOp a op b p) s = none := id rfl
@[simp] theorem isDct_If : isDct G (.IfExp t a b p) s = none := id rfl
@[simp] theorem isDct_List : isDct G (.List es p) s = none := id rfl
@[simp] theorem isDct_Tuple {k} : isDct G (.Tuple es k p) s = none := id rfl
@[simp] theorem isDct_Comp {elt gens sc} : isDct G (.ListComp elt gens sc p) s = none := id rfl
def dsC (o : Option (Nat × Dct)) (f : EvF) (a b : Expr) (w : Wd) : R RV := match o with
  | some (_, ps) => if isSlice b then .bad else dixW f ps b w
  | none => subW f a b w
@[simp] theorem dsC_n {f : EvF} : dsC none f a b w = subW f a b w := id rfl
@[simp] theorem dsC_s {f : EvF} {j ps} : dsC (some (j, ps)) f a b w = if isSlice b then .bad else dixW f ps b w := id rfl
@[simp] theorem ev_Subscript : ev (n + 1) G s (.Subscript a b p) w = dsC (isDct G a s) (ev n G s) a b w := id rfl
@[simp] theorem isDget_Name {ks} : isDget G s (.Name x p) as ks = none := id rfl
@[simp] theorem isDget_1 {m ks} : isDget G s (.Attribute a m p) [b] ks = none := by cases ks <;> rfl
@[simp] theorem isDget_0 {m ks} : isDget G s (.Attribute a m p) [] ks = none := by cases ks <;> rfl
@[simp] theorem isDget_2 {m} : isDget G s (.Attribute a m p) [b, e] [] = if m = "get" then (isDct G a s).map (fun q => (q.2, b, e)) else none := id rfl
def dcC (o : Option (Dct × Expr × Expr)) (G : Cn) (f : EvF) (g : Expr) (as : List Expr) (ks : List Keyword) (w : Wd) : R RV := match o with
  | some (ps, a, b) => dgetW f ps a b w
  | none => callW G f g as ks w
@[simp] theorem dcC_n {f : EvF} {g ks} : dcC none G f g as ks w = callW G f g as ks w := id rfl
@[simp] theorem dcC_s {f : EvF} {g ks ps} : dcC (some (ps, a, b)) G f g as ks w = dgetW f ps a b w := id rfl
@[simp] theorem ev_Call {g ks} : ev (n + 1) G s (.Call g as ks p) w = dcC (isDget G s g as ks) G (ev n G s) g as ks w := id rfl
@[simp] theorem ev_ListComp {elt gens sc} : ev (n + 1) G s (.ListComp elt gens sc p) w = compW G (ev n G) elt gens sc s w := id rfl
/-- behind a statement -/
def contE (f : Stmt → Sl → Wd → R Out) (r : List Stmt) : Out → Wd → R Out
  | .nxt s, w => execs f r s w
  | o, w => .ok o w
@[simp] theorem execs_nil {f} : TM.execs f [] s w = .ok (.nxt s) w := id rfl
@[simp] theorem execs_cons {f st rr} : TM.execs f (st :: rr) s w = (f st s w).bind (contE f rr) := by
  show (f st s w).bind _ = _
  cases f st s w with
  | ok o w => cases o <;> rfl
  | exc c w => rfl
  | bad => rfl
@[simp] theorem contE_nxt {f rr} : contE f rr (.nxt s) w = TM.execs f rr s w := id rfl
@[simp] theorem contE_ret {f rr v} : contE f rr (.ret v) w = .ok (.ret v) w := id rfl
@[simp] theorem contE_brk {f rr} : contE f rr (.brk s) w = .ok (.brk s) w := id rfl
@[simp] theorem contE_cnt {f rr} : contE f rr (.cnt s) w = .ok (.cnt s) w := id rfl
@[simp] theorem outV_ret {v} : outV (.ok (.ret v) w) = .ok v w := id rfl
@[simp] theorem outV_nxt : outV (.ok (.nxt s) w) = .ok (.val .none) w := id rfl
@[simp] theorem outV_bad : outV .bad = .bad := id rfl
@[simp] theorem ctchN_name {m} : ctchN G (.Name x p) e s w m = ctch G e s w m := id rfl
@[simp] theorem ctchN_tup {es k m} : ctchN G (.Tuple es k p) e s w m = m := id rfl
@[simp] theorem ctchN_sub {a b m} : ctchN G (.Subscript a b p) e s w m = m := id rfl
@[simp] theorem ctch_okS {o} {w'} : ctch G e s w (.ok o w') = .ok o w' := id rfl
@[simp] theorem ctch_badS : ctch G e s w .bad = .bad := id rfl
@[simp] theorem ctch_iteS {c : Prop} [Decidable c] {a b : R Out} : ctch G e s w (if c then a else b) = if c then ctch G e s w a else ctch G e s w b := by split <;> rfl
@[simp] theorem ex_Assign : ex (n + 1) G (.Assign [t] e p) s w = ctchN G t e s w ((asgW G (ev evF G) t e s w).bind nxtC) := id rfl
@[simp] theorem ex_Aug {op} : ex (n + 1) G (.AugAssign t op e p) s w = (augW G (ev evF G) t op e s w).bind nxtC := id rfl
@[simp] theorem ex_If {A B} : ex (n + 1) G (.If t A B p) s w = (tstW (ev evF G s) t w).bind (ifC n G A B s) := by
  show R.bind _ _ = _
  congr 1
  funext x w
  cases x <;> rfl
@[simp] theorem ex_Return : ex (n + 1) G (.Return (some e) p) s w = ctch G e s w (retW G (ev evF G s) e s w) := id rfl
@[simp] theorem ex_ReturnN : ex (n + 1) G (.Return none p) s w = .ok (.ret (.val .none)) w := id rfl
@[simp] theorem ex_Pass : ex (n + 1) G (.Pass p) s w = .ok (.nxt s) w := id rfl
@[simp] theorem ex_Expr : ex (n + 1) G (.Expr e p) s w = ctch G e s w ((exprW G (ev evF G) e s w).bind nxtC) := id rfl
@[simp] theorem tstW_eq {f : EvF} : tstW f t w = (f t w).bind boolC := id rfl
@[simp] theorem boolOf_b {z : Bool} : boolOf (.val (.bool z)) = some z := id rfl
@[simp] theorem cstW_int {i} : cstW (.int i) w = .ok (.val (.int i)) w := id rfl
@[simp] theorem cstW_str {i} : cstW (.str i) w = .ok (.val (.str i)) w := id rfl
@[simp] theorem cstW_bool {i} : cstW (.bool i) w = .ok (.val (.bool i)) w := id rfl
@[simp] theorem cstW_none : cstW .none w = .ok (.val .none) w := id rfl
@[simp] theorem slotW_val {d} : slotW (some (some (.val d))) w = .ok (.val d) w := id rfl
@[simp] theorem slotW_own {d} : slotW (some (some (.own d))) w = .ok (.bor d) w := id rfl
@[simp] theorem evsW_nil {f : EvF} : evsW f [] w = .ok [] w := id rfl
@[simp] theorem evsW_cons {f : EvF} : evsW f (e :: es) w = (f e w).bind (evsC1 f es) := id rfl
theorem nameW_slot {i} (h : idx G.N x = some i) : nameW G x s w = slotW s[i]? w := by unfold nameW; rw [h]
theorem nameW_cst (h : idx G.N x = none) : nameW G x s w = R.of ((G.cst x).map .val) w := by unfold nameW; rw [h]
theorem callW_def {f : EvF} (h : G.dfn x = true) : callW G f (.Name x p) as [] w = (evsW f as w).bind fun vs w => callT G.T x vs w := by
  unfold callW
  simp only [h, if_true]
theorem callW_blt {f : EvF} {bb} (h : G.dfn x = false) (hb : bltTab.lookup x = some bb) : callW G f (.Name x p) as [] w = bltW G f bb as w := by
  unfold callW
  simp only [h, hb]
  rfl
@[simp] theorem asgN_val {i d} : asgN G i x (.val d) s w = .ok (s.set i (some (.val d))) w := id rfl
@[simp] theorem ex_While {A} : ex (n + 1) G (.While t A [] p) s w = whlL (cndF G t) (bdyF n G A) turns s w := id rfl
@[simp] theorem ev_Compare2 {op op' c} : ev (n + 1) G s (.Compare a [op, op'] [b, c] p) w = (ev n G s a w).bind (cmp2C1 (ev n G s) op op' b c) := by
  show R.bind _ _ = _
  congr 1
  funext x w
  show R.bind _ _ = R.bind _ _
  congr 1
  funext y w
  show R.bind _ _ = R.bind _ _
  congr 1
  funext z w
  cases z <;> rfl
end
/-! ### a while by its rule: P what stands at the head with at most m turns to go -/
theorem whl_gcd {C : Sl → Wd → R Bool} {F : Sl → Wd → R Out} {mk : Int → Int → Sl} {w : Wd} (hC : ∀ x y, C (mk x y) w = .ok (decide (y ≠ 0)) w) (hF : ∀ x y, y ≠ 0 → F (mk x y) w = .ok (.nxt (mk y (x.fmod y))) w) :
    ∀ (m : Nat) (x y : Int), 0 ≤ x → 0 ≤ y → y.toNat < m → whlL C F m (mk x y) w = .ok (.nxt (mk (Int.gcd x y) 0)) w := by
  intro m
  induction m with
  | zero => intro x y _ _ h; omega
  | succ m ih =>
    intro x y hx hy hm
    show (C (mk x y) w).bind _ = _
    rw [hC]
    by_cases h : y = 0
    · subst h
      have e : ((Int.gcd x 0 : Nat) : Int) = x := by rw [Int.gcd_zero_right]; omega
      rw [e]
      rfl
    · rw [decide_eq_true (show y ≠ 0 from h)]
      show (F (mk x y) w).bind _ = _
      rw [hF x y h]
      have hy' : 0 < y := by omega
      have m0 := Int.fmod_nonneg_of_pos x hy'
      have m1 := Int.fmod_lt_of_pos x hy'
      have := ih y (x.fmod y) hy m0 (by omega)
      show whlL C F m (mk y (x.fmod y)) w = _
      rw [this]
      have e : Int.gcd y (x.fmod y) = Int.gcd x y := by
        rw [Int.fmod_eq_emod_of_nonneg x hy]
        obtain ⟨a, rfl⟩ := Int.eq_ofNat_of_zero_le hx
        obtain ⟨b, rfl⟩ := Int.eq_ofNat_of_zero_le hy
        show Nat.gcd b (a % b) = Nat.gcd a b
        rw [Nat.gcd_comm a b, Nat.gcd_rec b a, Nat.gcd_comm]
      rw [e]
/-! ### operations on ints -/
section
variable {i j : Int}
@[simp] theorem bin_add : binop .Add (.val (.int i)) (.val (.int j)) = some (.val (.int (i + j))) := id rfl
@[simp] theorem bin_sub : binop .Sub (.val (.int i)) (.val (.int j)) = some (.val (.int (i - j))) := id rfl
theorem bin_mul (h : mulOk i j = true) : binop .Mult (.val (.int i)) (.val (.int j)) = some (.val (.int (i * j))) := if_pos h
theorem bin_div (h : divOk j = true) : binop .FloorDiv (.val (.int i)) (.val (.int j)) = some (.val (.int (i.fdiv j))) := if_pos h
theorem bin_mod (h : j ≠ 0) : binop .Mod (.val (.int i)) (.val (.int j)) = some (.val (.int (i.fmod j))) := if_pos (decide_eq_true h)
@[simp] theorem cmp_lt : cmpop .Lt (.val (.int i)) (.val (.int j)) = some (decide (i < j)) := id rfl
@[simp] theorem cmp_le : cmpop .LtE (.val (.int i)) (.val (.int j)) = some (decide (i ≤ j)) := id rfl
@[simp] theorem cmp_gt : cmpop .Gt (.val (.int i)) (.val (.int j)) = some (decide (j < i)) := id rfl
@[simp] theorem cmp_ge : cmpop .GtE (.val (.int i)) (.val (.int j)) = some (decide (j ≤ i)) := id rfl
@[simp] theorem cmp_eq : cmpop .Eq (.val (.int i)) (.val (.int j)) = some (decide (i = j)) := by
  show (if (okD 8 (.int i) && okD 8 (.int j)) = true then some (i == j) else none) = _
  simp [okD]
  by_cases h : i = j <;> simp [h]
@[simp] theorem cmp_ne : cmpop .NotEq (.val (.int i)) (.val (.int j)) = some (decide (i ≠ j)) := by
  show (if (okD 8 (.int i) && okD 8 (.int j)) = true then some (!(i == j)) else none) = _
  simp [okD]
  by_cases h : i = j
  · subst h; simp
  · simp [h]
end
end TM

namespace TM
open PySem
/-! ### more rules for stepping -/
def frzC (y : RV) (w : Wd) : R RV := R.of ((frz y).map .val) w
@[simp] theorem frzC_eq {y w} : frzC y w = R.of ((frz y).map .val) w := id rfl
def ifeC2 (f : EvF) (a b : Expr) (z : Bool) (w : Wd) : R RV := if z = true then (f a w).bind frzC else (f b w).bind frzC
@[simp] theorem ifeC2_eq {f a b z w} : ifeC2 f a b z w = if z = true then (f a w).bind frzC else (f b w).bind frzC := id rfl
def ifeC1 (f : EvF) (a b : Expr) (x : RV) (w : Wd) : R RV := (R.of (boolOf x) w).bind (ifeC2 f a b)
@[simp] theorem ifeC1_eq {f a b x w} : ifeC1 f a b x w = (R.of (boolOf x) w).bind (ifeC2 f a b) := id rfl
def ixC2 (x y : RV) (w : Wd) : R RV := R.of (ixop x y) w
def ixC1 (f : EvF) (b : Expr) (x : RV) (w : Wd) : R RV := (f b w).bind (ixC2 x)
@[simp] theorem ixC2_eq {x y w} : ixC2 x y w = R.of (ixop x y) w := id rfl
@[simp] theorem ixC1_eq {f b x w} : ixC1 f b x w = (f b w).bind (ixC2 x) := id rfl
def slC3 (x : RV) (l h : Option Int) (w : Wd) : R RV := R.of (slop x l h) w
def slC2 (f : EvF) (hi : Option Expr) (x : RV) (l : Option Int) (w : Wd) : R RV := (optW f hi w).bind (slC3 x l)
def slC1 (f : EvF) (lo hi : Option Expr) (x : RV) (w : Wd) : R RV := (optW f lo w).bind (slC2 f hi x)
@[simp] theorem slC3_eq {x l h w} : slC3 x l h w = R.of (slop x l h) w := id rfl
@[simp] theorem slC2_eq {f hi x l w} : slC2 f hi x l w = (optW f hi w).bind (slC3 x l) := id rfl
@[simp] theorem slC1_eq {f lo hi x w} : slC1 f lo hi x w = (optW f lo w).bind (slC2 f hi x) := id rfl
def mtdC2 (m : Str) (x y : RV) (w : Wd) : R RV := R.of (mtop m x [y]) w
def mtdC1 (f : EvF) (m : Str) (b : Expr) (x : RV) (w : Wd) : R RV := (f b w).bind (mtdC2 m x)
@[simp] theorem mtdC2_eq {m x y w} : mtdC2 m x y w = R.of (mtop m x [y]) w := id rfl
@[simp] theorem mtdC1_eq {f m b x w} : mtdC1 f m b x w = (f b w).bind (mtdC2 m x) := id rfl
def isiC (xs : Str → Option (List Str)) (x : Str) (y : RV) (w : Wd) : R RV := R.of ((isTyX xs y x).map bv) w
@[simp] theorem isiC_eq {xs x y w} : isiC xs x y w = R.of ((isTyX xs y x).map bv) w := id rfl
@[simp] theorem isTyX_int {xs i t} : isTyX xs (.val (.int i)) t = isTy (.val (.int i)) t := id rfl
@[simp] theorem isTyX_bool {xs i t} : isTyX xs (.val (.bool i)) t = isTy (.val (.bool i)) t := id rfl
@[simp] theorem isTyX_str {xs i t} : isTyX xs (.val (.str i)) t = isTy (.val (.str i)) t := id rfl
@[simp] theorem isTyX_tup {xs i t} : isTyX xs (.val (.tuple i)) t = isTy (.val (.tuple i)) t := id rfl
@[simp] theorem isTyX_lst {xs i t} : isTyX xs (.val (.list i)) t = isTy (.val (.list i)) t := id rfl
@[simp] theorem isTyX_non {xs t} : isTyX xs (.val .none) t = isTy (.val .none) t := id rfl
@[simp] theorem isTyX_own {xs i t} : isTyX xs (.own i) t = isTy (.own i) t := id rfl
@[simp] theorem isTyX_bor {xs i t} : isTyX xs (.bor i) t = isTy (.bor i) t := id rfl
/-- the rest of a call by an attribute, of a class -/
def attC (G : Cn) (f : EvF) (m : Str) (args : List Expr) (x : RV) (w : Wd) : R RV := match spcK x with
  | some k => if isWat w[k]? && decide (args.length ≤ 1) then (match wTab.lookup m with
    | some z => if G.wt z then (evsW f args w).bind fun vs w => callT G.T z (x :: vs) w else .bad
    | none => .bad) else .bad
  | none => (match args with
    | [a] => (f a w).bind fun y w => R.of (mtop m x [y]) w
    | _ => .bad)
def mkC (T : Tab) (vs : List RV) (w : Wd) : R RV := match datS vs with
  | some ds => T "Watcher.__init__" ds w
  | none => .bad
def rngLC (vs : List RV) (w : Wd) : R RV := match vs with
        | [_, _, _] => .bad
        | vs => R.of ((rangeA vs).map .own) w
@[simp] theorem rngLC_1 {a w} : rngLC [a] w = R.of ((rangeA [a]).map .own) w := id rfl
@[simp] theorem rngLC_2 {a b w} : rngLC [a, b] w = R.of ((rangeA [a, b]).map .own) w := id rfl
def lstBC (x : RV) (w : Wd) : R RV := R.of (bltop .list [x]) w
@[simp] theorem lstBC_eq {x w} : lstBC x w = R.of (bltop .list [x]) w := id rfl
def lenC (ds : List D) (w : Wd) : R RV := if ds.length ≤ 100000 then .ok (.own ds) w else .bad
@[simp] theorem lenC_eq {ds w} : lenC ds w = if ds.length ≤ 100000 then .ok (.own ds) w else .bad := id rfl
def compC (F : D → Wd → R (Option D)) (ds : List D) (w : Wd) : R RV := (compL F ds w).bind lenC
@[simp] theorem compC_eq {F ds w} : compC F ds w = (compL F ds w).bind lenC := id rfl
def execsC (n : Nat) (G : Cn) (body : List Stmt) (s : Sl) (w : Wd) : R Out := TM.execs (ex n G) body s w
@[simp] theorem execsC_eq {n G body s w} : execsC n G body s w = TM.execs (ex n G) body s w := id rfl
def asgC (G : Cn) (i : Nat) (x : Str) (s : Sl) (v : RV) (w : Wd) : R Sl := asgN G i x v s w
@[simp] theorem asgC_eq {G i x s v w} : asgC G i x s v w = asgN G i x v s w := id rfl
def tupAC (G : Cn) (F : Sl → EvF) (ts : List Expr) (s : Sl) (v : RV) (w : Wd) : R Sl := match v with
    | .val (.tuple ds) => stTs G F ts ds s w
    | _ => .bad
@[simp] theorem tupAC_eq {G F ts s ds w} : tupAC G F ts s (.val (.tuple ds)) w = stTs G F ts ds s w := id rfl
def stAC (G : Cn) (F : Sl → EvF) (t : Expr) (s : Sl) (v : RV) (w : Wd) : R Sl := match frz v with
    | some d => stT G F t d s w
    | none => .bad
@[simp] theorem stAC_v {G F t s d w} : stAC G F t s (.val d) w = stT G F t d s w := id rfl
@[simp] theorem stAC_o {G F t s d w} : stAC G F t s (.own d) w = stT G F t (.list d) s w := id rfl
def lstC (vs : List RV) (w : Wd) : R RV := match datS vs with
  | some ds => if ds.length ≤ 100000 then .ok (.own ds) w else .bad
  | none => .bad
def tupC (vs : List RV) (w : Wd) : R RV := match datS vs with
  | some ds => if ds.length ≤ 100000 then .ok (.val (.tuple ds)) w else .bad
  | none => .bad
@[simp] theorem lstC_eq {vs w} : lstC vs w = match datS vs with
  | some ds => if ds.length ≤ 100000 then .ok (.own ds) w else .bad
  | none => .bad := id rfl
@[simp] theorem tupC_eq {vs w} : tupC vs w = match datS vs with
  | some ds => if ds.length ≤ 100000 then .ok (.val (.tuple ds)) w else .bad
  | none => .bad := id rfl
def rngC (vs : List RV) (w : Wd) : R (List D) := R.of (rangeA vs) w
@[simp] theorem rngC_eq {vs w} : rngC vs w = R.of (rangeA vs) w := id rfl
def seqC (z : Bool) (x : RV) (w : Wd) : R (List D) := if x.isBor && !z then .bad else R.of (seqOf x) w
@[simp] theorem seqC_eq {z x w} : seqC z x w = if x.isBor && !z then .bad else R.of (seqOf x) w := id rfl
def stsC (G : Cn) (F : Sl → EvF) (es : List Expr) (ds : List D) (s : Sl) (w : Wd) : R Sl := stTs G F es ds s w
@[simp] theorem stsC_eq {G F es ds s w} : stsC G F es ds s w = stTs G F es ds s w := id rfl
def stiC (k : Nat) (ds : List D) (d : D) (s : Sl) (y : RV) (w : Wd) : R Sl := match y with
          | .val (.int i) => (match L2.ixN ds.length i with
            | some j => .ok (s.set k (some (.own (ds.set j d)))) w
            | none => .bad)
          | _ => .bad
@[simp] theorem stiC_eq {k ds d s i w} : stiC k ds d s (.val (.int i)) w = match L2.ixN ds.length i with
            | some j => .ok (s.set k (some (.own (ds.set j d)))) w
            | none => .bad := id rfl
def eltC3 (x : RV) (w : Wd) : R (Option D) := R.of ((frz x).map some) w
def eltC2 (F : Sl → EvF) (elt : Expr) (s : Sl) (z : Bool) (w : Wd) : R (Option D) := if z = true then (F s elt w).bind eltC3 else .ok none w
def eltC1 (F : Sl → EvF) (elt : Expr) (ifs : List Expr) (s : Sl) (w : Wd) : R (Option D) := (ifsW (F s) ifs w).bind (eltC2 F elt s)
@[simp] theorem eltC3_eq {x w} : eltC3 x w = R.of ((frz x).map some) w := id rfl
@[simp] theorem eltC2_eq {F elt s z w} : eltC2 F elt s z w = if z = true then (F s elt w).bind eltC3 else .ok none w := id rfl
@[simp] theorem eltC1_eq {F elt ifs s w} : eltC1 F elt ifs s w = (ifsW (F s) ifs w).bind (eltC2 F elt s) := id rfl
def augC (op : Operator) (v : RV) (i : Nat) (s : Sl) (y : RV) (w : Wd) : R Sl := match augop op v y with
        | some z => .ok (s.set i (some z)) w
        | none => .bad
@[simp] theorem augC_eq {op v i s y w} : augC op v i s y w = match augop op v y with
        | some z => .ok (s.set i (some z)) w
        | none => .bad := id rfl
def keepC (s : Sl) (v : RV) (w : Wd) : R Sl := .ok s w
@[simp] theorem keepC_eq {s v w} : keepC s v w = .ok s w := id rfl
def forC (n : Nat) (G : Cn) (tg : Expr) (body : List Stmt) (s : Sl) (ds : List D) (w : Wd) : R Out := forL (fun d s w => match tgt G.N tg d s with
        | some s => TM.execs (ex n G) body s w
        | none => .bad) ds s w
section
variable {n : Nat} {G : Cn} {s : Sl} {w : Wd} {a b e e' t : Expr} {es as : List Expr} {p q r : Pos} {x : Str}
def andC (f : EvF) (r : List Expr) : RV → Wd → R RV
  | .val (.bool true), w => andW f r w
  | .val (.bool false), w => .ok (.val (.bool false)) w
  | _, _ => .bad
def orC (f : EvF) (r : List Expr) : RV → Wd → R RV
  | .val (.bool false), w => orW f r w
  | .val (.bool true), w => .ok (.val (.bool true)) w
  | _, _ => .bad
@[simp] theorem andW_cons {f : EvF} : andW f (e :: e' :: es) w = (f e w).bind (andC f (e' :: es)) := by
  show R.bind _ _ = _
  congr 1
  funext v w
  cases v with
  | val d => cases d with
    | bool z => cases z <;> rfl
    | _ => rfl
  | _ => rfl
@[simp] theorem orW_cons {f : EvF} : orW f (e :: e' :: es) w = (f e w).bind (orC f (e' :: es)) := by
  show R.bind _ _ = _
  congr 1
  funext v w
  cases v with
  | val d => cases d with
    | bool z => cases z <;> rfl
    | _ => rfl
  | _ => rfl
theorem andW_one {f : EvF} {z : Bool} {w'} (h : f e w = .ok (.val (.bool z)) w') : andW f [e] w = .ok (.val (.bool z)) w' := by
  show R.bind _ _ = _
  rw [h]
  cases z <;> rfl
theorem orW_one {f : EvF} {z : Bool} {w'} (h : f e w = .ok (.val (.bool z)) w') : orW f [e] w = .ok (.val (.bool z)) w' := by
  show R.bind _ _ = _
  rw [h]
  cases z <;> rfl
/-- the last one of a row -/
def lastC : RV → Wd → R RV
  | .val (.bool z), w => .ok (.val (.bool z)) w
  | _, _ => .bad
@[simp] theorem andW_last {f : EvF} : andW f [e] w = (f e w).bind lastC := by
  show R.bind _ _ = _
  congr 1
  funext v w
  cases v with
  | val d => cases d with
    | bool z => cases z <;> rfl
    | _ => rfl
  | _ => rfl
@[simp] theorem orW_last {f : EvF} : orW f [e] w = (f e w).bind lastC := by
  show R.bind _ _ = _
  congr 1
  funext v w
  cases v with
  | val d => cases d with
    | bool z => cases z <;> rfl
    | _ => rfl
  | _ => rfl
@[simp] theorem lastC_b {z : Bool} : lastC (.val (.bool z)) w = .ok (.val (.bool z)) w := id rfl
@[simp] theorem andC_b {f : EvF} {z : Bool} : andC f es (.val (.bool z)) w = if z = true then andW f es w else .ok (.val (.bool false)) w := by cases z <;> rfl
@[simp] theorem orC_b {f : EvF} {z : Bool} : orC f es (.val (.bool z)) w = if z = true then .ok (.val (.bool true)) w else orW f es w := by cases z <;> rfl
@[simp] theorem un_not {z : Bool} : unop .Not (.val (.bool z)) = some (.val (.bool (!z))) := id rfl
@[simp] theorem un_neg {i : Int} : unop .USub (.val (.int i)) = some (.val (.int (-i))) := id rfl
@[simp] theorem bind_ite {α β : Type} {c : Prop} [Decidable c] {x y : R α} {f : α → Wd → R β} : (if c then x else y).bind f = if c then x.bind f else y.bind f := by split <;> rfl
@[simp] theorem outV_ite {c : Prop} [Decidable c] {x y : R Out} : outV (if c then x else y) = if c then outV x else outV y := by split <;> rfl
@[simp] theorem ifW_eq {f : EvF} : ifW f t a b w = (f t w).bind (ifeC1 f a b) := by
  show R.bind _ _ = _
  congr 1
  funext x w
  show _ = (R.of (boolOf x) w).bind (ifeC2 f a b)
  cases boolOf x with
  | none => rfl
  | some z => cases z <;> rfl
@[simp] theorem frz_val {d : D} : frz (.val d) = some d := id rfl
@[simp] theorem frz_own {ds : List D} : frz (.own ds) = some (.list ds) := id rfl
@[simp] theorem datS_nil : datS [] = some [] := id rfl
@[simp] theorem datS_val {d : D} {r : List RV} : datS (.val d :: r) = (datS r).map (d :: ·) := id rfl
@[simp] theorem datS_own {d : List D} {r : List RV} : datS (.own d :: r) = (datS r).map (.list d :: ·) := id rfl
@[simp] theorem asgN_own {i d} : asgN G i x (.own d) s w = if mtC G.mt x = true then .ok (s.set i (some (.own d))) w else .ok (s.set i (some (.val (.list d)))) w := id rfl
/-! subscripts -/
theorem subW_ix {f : EvF} (h : ∀ l u st p, b ≠ .Slice l u st p) : subW f a b w = (f a w).bind (ixC1 f b) := by
  unfold subW
  split
  · exact absurd rfl (h _ _ _ _)
  · exact absurd rfl (h _ _ _ _)
  · exact absurd rfl (h _ _ _ _)
  · rfl
@[simp] theorem subW_sl {f : EvF} {lo hi : Option Expr} : subW f a (.Slice lo hi none p) w = (f a w).bind (slC1 f lo hi) := by
  cases lo <;> cases hi <;> rfl
@[simp] theorem subW_name {f : EvF} : subW f a (.Name x p) w = (f a w).bind (ixC1 f (.Name x p)) := id rfl
@[simp] theorem subW_cst {f : EvF} {c k} : subW f a (.Constant c k p) w = (f a w).bind (ixC1 f (.Constant c k p)) := id rfl
@[simp] theorem subW_bin {f : EvF} {c k d} : subW f a (.BinOp c k d p) w = (f a w).bind (ixC1 f (.BinOp c k d p)) := id rfl
@[simp] theorem subW_un {f : EvF} {c k} : subW f a (.UnaryOp c k p) w = (f a w).bind (ixC1 f (.UnaryOp c k p)) := id rfl
@[simp] theorem subW_call {f : EvF} {c k d} : subW f a (.Call c k d p) w = (f a w).bind (ixC1 f (.Call c k d p)) := id rfl
@[simp] theorem subW_sub {f : EvF} {c d} : subW f a (.Subscript c d p) w = (f a w).bind (ixC1 f (.Subscript c d p)) := id rfl
@[simp] theorem optW_none {f : EvF} : optW f none w = .ok none w := id rfl
def optC : RV → Wd → R (Option Int)
  | .val (.int i), w => .ok (some i) w
  | _, _ => .bad
@[simp] theorem optW_some {f : EvF} : optW f (some e) w = (f e w).bind optC := by
  show R.bind _ _ = _
  congr 1
  funext v w
  cases v with
  | val d => cases d <;> rfl
  | _ => rfl
@[simp] theorem optC_i {i : Int} : optC (.val (.int i)) w = .ok (some i) w := id rfl
/-! returns, types -/
def retC : RV → Wd → R Out
  | .bor _, _ => .bad
  | v, w => .ok (.ret v) w
@[simp] theorem retW_eq {f : EvF} : retW G f e s w = match isOwn G e s with
  | some (_, ds) => .ok (.ret (.own ds)) w
  | none => (f e w).bind retC := by
  unfold retW
  cases isOwn G e s with
  | some z => rfl
  | none =>
    show R.bind _ _ = R.bind _ _
    congr 1
    funext v w
    cases v <;> rfl
@[simp] theorem retC_val {d : D} : retC (.val d) w = .ok (.ret (.val d)) w := id rfl
@[simp] theorem retC_own {d : List D} : retC (.own d) w = .ok (.ret (.own d)) w := id rfl
section
variable {i : Int} {z : Bool} {x : Str} {ds : List D}
@[simp] theorem isTy_int_int : isTy (.val (.int i)) "int" = some true := id rfl
@[simp] theorem isTy_int_bool : isTy (.val (.int i)) "bool" = some false := id rfl
@[simp] theorem isTy_int_list : isTy (.val (.int i)) "list" = some false := id rfl
@[simp] theorem isTy_int_tuple : isTy (.val (.int i)) "tuple" = some false := id rfl
@[simp] theorem isTy_int_str : isTy (.val (.int i)) "str" = some false := id rfl
@[simp] theorem isTy_bool_int : isTy (.val (.bool z)) "int" = some true := id rfl
@[simp] theorem isTy_bool_bool : isTy (.val (.bool z)) "bool" = some true := id rfl
@[simp] theorem isTy_bool_list : isTy (.val (.bool z)) "list" = some false := id rfl
@[simp] theorem isTy_bool_tuple : isTy (.val (.bool z)) "tuple" = some false := id rfl
@[simp] theorem isTy_bool_str : isTy (.val (.bool z)) "str" = some false := id rfl
@[simp] theorem isTy_str_int : isTy (.val (.str x)) "int" = some false := id rfl
@[simp] theorem isTy_str_bool : isTy (.val (.str x)) "bool" = some false := id rfl
@[simp] theorem isTy_str_list : isTy (.val (.str x)) "list" = some false := id rfl
@[simp] theorem isTy_str_tuple : isTy (.val (.str x)) "tuple" = some false := id rfl
@[simp] theorem isTy_str_str : isTy (.val (.str x)) "str" = some true := id rfl
@[simp] theorem isTy_tuple_int : isTy (.val (.tuple ds)) "int" = some false := id rfl
@[simp] theorem isTy_tuple_bool : isTy (.val (.tuple ds)) "bool" = some false := id rfl
@[simp] theorem isTy_tuple_list : isTy (.val (.tuple ds)) "list" = some false := id rfl
@[simp] theorem isTy_tuple_tuple : isTy (.val (.tuple ds)) "tuple" = some true := id rfl
@[simp] theorem isTy_tuple_str : isTy (.val (.tuple ds)) "str" = some false := id rfl
@[simp] theorem isTy_list_int : isTy (.val (.list ds)) "int" = some false := id rfl
@[simp] theorem isTy_list_bool : isTy (.val (.list ds)) "bool" = some false := id rfl
@[simp] theorem isTy_list_list : isTy (.val (.list ds)) "list" = some true := id rfl
@[simp] theorem isTy_list_tuple : isTy (.val (.list ds)) "tuple" = some false := id rfl
@[simp] theorem isTy_list_str : isTy (.val (.list ds)) "str" = some false := id rfl
@[simp] theorem isTy_NoneType_int : isTy (.val .none) "int" = some false := id rfl
@[simp] theorem isTy_NoneType_bool : isTy (.val .none) "bool" = some false := id rfl
@[simp] theorem isTy_NoneType_list : isTy (.val .none) "list" = some false := id rfl
@[simp] theorem isTy_NoneType_tuple : isTy (.val .none) "tuple" = some false := id rfl
@[simp] theorem isTy_NoneType_str : isTy (.val .none) "str" = some false := id rfl
@[simp] theorem isTy_own_int : isTy (.own ds) "int" = some false := id rfl
@[simp] theorem isTy_own_bool : isTy (.own ds) "bool" = some false := id rfl
@[simp] theorem isTy_own_list : isTy (.own ds) "list" = some true := id rfl
@[simp] theorem isTy_own_tuple : isTy (.own ds) "tuple" = some false := id rfl
@[simp] theorem isTy_own_str : isTy (.own ds) "str" = some false := id rfl
@[simp] theorem isTy_bor_int : isTy (.bor ds) "int" = some false := id rfl
@[simp] theorem isTy_bor_bool : isTy (.bor ds) "bool" = some false := id rfl
@[simp] theorem isTy_bor_list : isTy (.bor ds) "list" = some true := id rfl
@[simp] theorem isTy_bor_tuple : isTy (.bor ds) "tuple" = some false := id rfl
@[simp] theorem isTy_bor_str : isTy (.bor ds) "str" = some false := id rfl
end
/-! calls -/
def chkC (b : Bool) (r : RV) (w : Wd) : R RV := if b && !noLRV r then .bad else .ok r w
def callC (T : Tab) (x : Str) (vs : List RV) (w : Wd) : R RV := callT T x vs w
@[simp] theorem callC_eq {T : Tab} {vs : List RV} : callC T x vs w = (T x (vs.map RV.dat) w).bind (chkC (vs.any RV.isBor)) := id rfl
@[simp] theorem chkC_f {v : RV} : chkC false v w = .ok v w := id rfl
theorem chkC_t {v : RV} (h : noLRV v = true) : chkC true v w = .ok v w := by unfold chkC; rw [h]; rfl
@[simp] theorem chkC_int {z : Bool} {i : Int} : chkC z (.val (.int i)) w = .ok (.val (.int i)) w := by cases z <;> rfl
@[simp] theorem chkC_bool {z : Bool} {i : Bool} : chkC z (.val (.bool i)) w = .ok (.val (.bool i)) w := by cases z <;> rfl
@[simp] theorem chkC_none {z : Bool} : chkC z (.val .none) w = .ok (.val .none) w := by cases z <;> rfl
@[simp] theorem chkC_str {z : Bool} {i : Str} : chkC z (.val (.str i)) w = .ok (.val (.str i)) w := by cases z <;> rfl
@[simp] theorem chkC_pair {z : Bool} {i j : Int} : chkC z (.val (.tuple [.int i, .int j])) w = .ok (.val (.tuple [.int i, .int j])) w := by cases z <;> rfl
theorem noL_flat (n : Nat) {d : D} (h : flatD d = true) : noL n d = true := by
  cases d <;> first | rfl | cases h | skip
  all_goals cases n <;> rfl
theorem chkC_own {z : Bool} {ds : List D} (h : ∀ d ∈ ds, noL 8 d = true) : chkC z (.own ds) w = .ok (.own ds) w := by
  cases z with
  | false => rfl
  | true => exact chkC_t (List.all_eq_true.mpr h)
@[simp] theorem chkC_ints {z : Bool} {xs : List Int} : chkC z (.own (xs.map .int)) w = .ok (.own (xs.map .int)) w := chkC_own fun d hd => by
  obtain ⟨a, _, rfl⟩ := List.mem_map.mp hd
  rfl
@[simp] theorem callW_name {f : EvF} : callW G f (.Name x p) as [] w = if G.dfn x = true then (evsW f as w).bind (callC G.T x) else match bltTab.lookup x with
        | some b => bltW G f b as w
        | none => if (decide (x = "Watcher") && G.wt "Watcher.__init__") = true then (evsW f as w).bind (mkC G.T) else .bad := id rfl
@[simp] theorem callW_attr {f : EvF} {m : Str} : callW G f (.Attribute a m p) as [] w = (f a w).bind (attC G f m as) := id rfl
@[simp] theorem attC_own {f : EvF} {m ds b} : attC G f m [b] (.own ds) w = (f b w).bind (mtdC2 m (.own ds)) := id rfl
@[simp] theorem attC_bor {f : EvF} {m ds b} : attC G f m [b] (.bor ds) w = (f b w).bind (mtdC2 m (.bor ds)) := id rfl
@[simp] theorem attC_lst {f : EvF} {m ds b} : attC G f m [b] (.val (.list ds)) w = (f b w).bind (mtdC2 m (.val (.list ds))) := id rfl
def blC (b : Blt) (vs : List RV) (w : Wd) : R RV := R.of (bltop b vs) w
@[simp] theorem blC_eq {bb : Blt} {vs : List RV} : blC bb vs w = R.of (bltop bb vs) w := id rfl
def lenBC (G : Cn) (vs : List RV) (w : Wd) : R RV := bltR G .len vs w
@[simp] theorem lenBC_l {ds : List D} : lenBC G [.val (.list ds)] w = .ok (.val (.int ds.length)) w := id rfl
@[simp] theorem lenBC_t {ds : List D} : lenBC G [.val (.tuple ds)] w = .ok (.val (.int ds.length)) w := id rfl
@[simp] theorem lenBC_o {ds : List D} : lenBC G [.own ds] w = .ok (.val (.int ds.length)) w := id rfl
@[simp] theorem lenBC_b {ds : List D} : lenBC G [.bor ds] w = .ok (.val (.int ds.length)) w := id rfl
@[simp] theorem lenBC_s {z : Str} : lenBC G [.val (.str z)] w = R.of (bltop .len [.val (.str z)]) w := id rfl
@[simp] theorem bltW_len {f : EvF} : bltW G f .len (a :: as) w = (evsW f (a :: as) w).bind (lenBC G) := id rfl
@[simp] theorem bltW_abs {f : EvF} : bltW G f .abs (a :: as) w = (evsW f (a :: as) w).bind (blC .abs) := id rfl
@[simp] theorem bltW_sum {f : EvF} : bltW G f .sum (a :: as) w = (evsW f (a :: as) w).bind (blC .sum) := id rfl
@[simp] theorem bltW_min {f : EvF} : bltW G f .min (a :: as) w = (evsW f (a :: as) w).bind (blC .min) := id rfl
@[simp] theorem bltW_max {f : EvF} : bltW G f .max (a :: as) w = (evsW f (a :: as) w).bind (blC .max) := id rfl
@[simp] theorem bltW_sorted {f : EvF} : bltW G f .sorted (a :: as) w = (evsW f (a :: as) w).bind (blC .sorted) := id rfl
@[simp] theorem bltW_tuple {f : EvF} : bltW G f .tuple (a :: as) w = (evsW f (a :: as) w).bind (blC .tuple) := id rfl
@[simp] theorem bltW_str {f : EvF} : bltW G f .str (a :: as) w = (evsW f (a :: as) w).bind (blC .str) := id rfl
@[simp] theorem bltW_all {f : EvF} : bltW G f .all (a :: as) w = (evsW f (a :: as) w).bind (blC .all) := id rfl
@[simp] theorem bltW_any {f : EvF} : bltW G f .any (a :: as) w = (evsW f (a :: as) w).bind (blC .any) := id rfl
@[simp] theorem bltW_isinst {f : EvF} : bltW G f .isinst [a, .Name x p] w = if (idx G.N x).isNone = true then (f a w).bind (isiC G.xs x) else .bad := id rfl
@[simp] theorem bltW_list {f : EvF} : bltW G f .list [e] w = match isRange G e with
      | some as => (evsW f as w).bind rngLC
      | none => (f e w).bind lstBC := id rfl
section
variable {i j : Int} {z : Bool} {x : Str} {ds : List D} {xs : List Int}
theorem asInts_map : ∀ xs : List Int, asInts (xs.map .int) = some xs
  | [] => rfl
  | x :: r => by simp [asInts, asInts_map r]
@[simp] theorem bl_len_t : bltop .len [.val (.tuple ds)] = some (.val (.int ds.length)) := id rfl
@[simp] theorem bl_len_l : bltop .len [.val (.list ds)] = some (.val (.int ds.length)) := id rfl
@[simp] theorem bl_len_o : bltop .len [.own ds] = some (.val (.int ds.length)) := id rfl
@[simp] theorem bl_len_b : bltop .len [.bor ds] = some (.val (.int ds.length)) := id rfl
@[simp] theorem bl_abs : bltop .abs [.val (.int i)] = some (.val (.int (if i < 0 then -i else i))) := id rfl
@[simp] theorem bl_sum_l : bltop .sum [.val (.list (xs.map .int))] = some (.val (.int xs.sum)) := by simp [bltop, asInts_map]
@[simp] theorem bl_sum_o : bltop .sum [.own (xs.map .int)] = some (.val (.int xs.sum)) := by simp [bltop, asInts_map]
@[simp] theorem bl_sum_b : bltop .sum [.bor (xs.map .int)] = some (.val (.int xs.sum)) := by simp [bltop, asInts_map]
@[simp] theorem bl_sorted_l : bltop .sorted [.val (.list (xs.map .int))] = some (.own ((srt xs).map .int)) := by simp [bltop, sortOp, asInts_map]
@[simp] theorem bl_sorted_o : bltop .sorted [.own (xs.map .int)] = some (.own ((srt xs).map .int)) := by simp [bltop, sortOp, asInts_map]
@[simp] theorem bl_sorted_b : bltop .sorted [.bor (xs.map .int)] = some (.own ((srt xs).map .int)) := by simp [bltop, sortOp, asInts_map]
@[simp] theorem bl_min2 : bltop .min [.val (.int i), .val (.int j)] = some (.val (.int (min i j))) := by
  show some (RV.val (.int (if j < i then j else i))) = _
  congr 3; omega
@[simp] theorem bl_max2 : bltop .max [.val (.int i), .val (.int j)] = some (.val (.int (max i j))) := by
  show some (RV.val (.int (if j > i then j else i))) = _
  congr 3; omega
@[simp] theorem bl_list_t : bltop .list [.val (.tuple ds)] = some (.own ds) := id rfl
@[simp] theorem bl_list_l : bltop .list [.val (.list ds)] = some (.own ds) := id rfl
@[simp] theorem bl_list_o : bltop .list [.own ds] = some (.own ds) := id rfl
@[simp] theorem bl_list_b : bltop .list [.bor ds] = some (.own ds) := id rfl
@[simp] theorem bl_tuple_l : bltop .tuple [.val (.list ds)] = some (.val (.tuple ds)) := id rfl
@[simp] theorem bl_tuple_o : bltop .tuple [.own ds] = some (.val (.tuple ds)) := id rfl
@[simp] theorem bl_tuple_b : bltop .tuple [.bor ds] = some (.val (.tuple ds)) := id rfl
theorem asBools_map {α : Type} (f : α → Bool) : ∀ xs : List α, asBools (xs.map fun x => PyData.bool (f x)) = some (xs.map f)
  | [] => rfl
  | x :: r => by simp [asBools, asBools_map f r]
theorem bl_all_o {α : Type} {f : α → Bool} {xs : List α} : bltop .all [.own (xs.map fun x => .bool (f x))] = some (.val (.bool ((xs.map f).all id))) := by simp [bltop, asBools_map]
/-! items and slices -/
@[simp] theorem ix_t : ixop (.val (.tuple ds)) (.val (.int i)) = (L2.atI ds i).map .val := id rfl
@[simp] theorem ix_l : ixop (.val (.list ds)) (.val (.int i)) = (L2.atI ds i).map .val := id rfl
@[simp] theorem ix_o : ixop (.own ds) (.val (.int i)) = (L2.atI ds i).map .val := id rfl
@[simp] theorem ix_b : ixop (.bor ds) (.val (.int i)) = (L2.atI ds i).map .val := id rfl
variable {lo hi : Option Int}
@[simp] theorem sl_l : slop (.val (.list ds)) lo hi = some (.own (cut ds lo hi)) := id rfl
@[simp] theorem sl_o : slop (.own ds) lo hi = some (.own (cut ds lo hi)) := id rfl
@[simp] theorem sl_b : slop (.bor ds) lo hi = some (.own (cut ds lo hi)) := id rfl
theorem cut_map {α : Type} {f : α → D} {xs : List α} : cut (xs.map f) lo hi = (cut xs lo hi).map f := by simp [cut, List.map_take, List.map_drop]
end
/-! comprehensions -/
theorem compL_all {f : D → Wd → R (Option D)} {h : D → D} {w : Wd} : ∀ {ds : List D}, (∀ d ∈ ds, f d w = .ok (some (h d)) w) → compL f ds w = .ok (ds.map h) w
  | [], _ => rfl
  | d :: r, k => by
    show (f d w).bind _ = _
    rw [k d List.mem_cons_self]
    show (compL f r w).bind _ = _
    rw [compL_all fun z hz => k z (List.mem_cons_of_mem _ hz)]
    rfl
theorem compL_fm {f : D → Wd → R (Option D)} {h : D → Option D} {w : Wd} : ∀ {ds : List D}, (∀ d ∈ ds, f d w = .ok (h d) w) → compL f ds w = .ok (ds.filterMap h) w
  | [], _ => rfl
  | d :: r, k => by
    show (f d w).bind _ = _
    rw [k d List.mem_cons_self]
    show (compL f r w).bind _ = _
    rw [compL_fm fun z hz => k z (List.mem_cons_of_mem _ hz)]
    rw [List.filterMap_cons]
    cases h d <;> rfl
/-- over the image of a list -/
theorem compL_map {α : Type} {g : α → D} {f : D → Wd → R (Option D)} {h : α → D} {w : Wd} : ∀ {ds : List α}, (∀ d ∈ ds, f (g d) w = .ok (some (h d)) w) → compL f (ds.map g) w = .ok (ds.map h) w
  | [], _ => rfl
  | d :: r, k => by
    show (f (g d) w).bind _ = _
    rw [k d List.mem_cons_self]
    show (compL f (r.map g) w).bind _ = _
    rw [compL_map fun z hz => k z (List.mem_cons_of_mem _ hz)]
    rfl
theorem compL_mapF {α : Type} {g : α → D} {f : D → Wd → R (Option D)} {c : α → Bool} {h : α → D} {w : Wd} : ∀ {ds : List α}, (∀ d ∈ ds, f (g d) w = .ok (if c d = true then some (h d) else none) w) → compL f (ds.map g) w = .ok ((ds.filter c).map h) w
  | [], _ => rfl
  | d :: r, k => by
    show (f (g d) w).bind _ = _
    rw [k d List.mem_cons_self]
    show (compL f (r.map g) w).bind _ = _
    rw [compL_mapF fun z hz => k z (List.mem_cons_of_mem _ hz)]
    rw [List.filter_cons]
    cases c d <;> rfl
theorem compW_eq {f : Sl → EvF} {elt tg iter ifs sc} : compW G f elt [⟨tg, iter, ifs, 0⟩] sc s w = (itcW G f iter s w).bind (compC (eltW G f elt tg ifs (wipeS s ((ownOf G.N sc).map Prod.snd)))) := rfl
/-! loops -/
theorem forL_inv {f : D → Sl → Wd → R Out} {ds : List D} {s : Sl} {w : Wd} (I : List D → Sl → Wd → Prop) (h0 : I [] s w) (hs : ∀ pre d post s w, ds = pre ++ d :: post → I pre s w → ∃ s' w', f d s w = .ok (.nxt s') w' ∧ I (pre ++ [d]) s' w') : ∃ s' w', forL f ds s w = .ok (.nxt s') w' ∧ I ds s' w' := by
  have aux : ∀ (post pre : List D) (s : Sl) (w : Wd), ds = pre ++ post → I pre s w → ∃ s' w', forL f post s w = .ok (.nxt s') w' ∧ I ds s' w' := by
    intro post
    induction post with
    | nil => intro pre s w e i; rw [List.append_nil] at e; rw [e]; exact ⟨s, w, rfl, i⟩
    | cons d r ih =>
      intro pre s w e i
      obtain ⟨s', w', e1, i1⟩ := hs pre d r s w e i
      obtain ⟨s2, w2, e2, i2⟩ := ih (pre ++ [d]) s' w' (by simp [e]) i1
      refine ⟨s2, w2, ?_, i2⟩
      show (f d s w).bind _ = _
      rw [e1]
      exact e2
  exact aux ds [] s w rfl h0
theorem forL_keep {f : D → Sl → Wd → R Out} {ds : List D} {s : Sl} {w : Wd} (I : Sl → Wd → Prop) (h0 : I s w) (hs : ∀ d ∈ ds, ∀ s w, I s w → ∃ s' w', f d s w = .ok (.nxt s') w' ∧ I s' w') : ∃ s' w', forL f ds s w = .ok (.nxt s') w' ∧ I s' w' :=
  forL_inv (fun _ => I) h0 fun pre d post s w e i => hs d (by rw [e]; simp) s w i
/-- a turn of a for -/
def loopF (n : Nat) (G : Cn) (tg : Expr) (body : List Stmt) (d : D) (s : Sl) (w : Wd) : R Out := match tgt G.N tg d s with
        | some s => TM.execs (ex n G) body s w
        | none => .bad
theorem loopF_eq {tg : Expr} {body : List Stmt} {d : D} : loopF n G tg body d s w = (R.of (tgt G.N tg d s) w).bind (execsC n G body) := by
  unfold loopF
  cases tgt G.N tg d s <;> rfl
@[simp] theorem forC_eq {tg body ds} : forC n G tg body s ds w = forL (loopF n G tg body) ds s w := id rfl
@[simp] theorem ex_For {tg iter body} : ex (n + 1) G (.For tg iter body [] p) s w = (iterW false G (ev evF G (frzN G iter s)) iter w).bind (forC n G tg body (frzN G iter s)) := id rfl
/-- how a turn ends -/
def Stp (m : R Out) (P : Sl → Wd → Prop) : Prop := match m with
  | .ok (.nxt s) w => P s w
  | .ok (.cnt s) w => P s w
  | _ => False
@[simp] theorem Stp_nxt {P : Sl → Wd → Prop} : Stp (.ok (.nxt s) w) P = P s w := id rfl
@[simp] theorem Stp_cnt {P : Sl → Wd → Prop} : Stp (.ok (.cnt s) w) P = P s w := id rfl
theorem Stp_ite {c : Prop} [Decidable c] {x y : R Out} {P : Sl → Wd → Prop} : Stp (if c then x else y) P = if c then Stp x P else Stp y P := by split <;> rfl
@[simp] theorem ex_Continue : ex (n + 1) G (.Continue p) s w = .ok (.cnt s) w := id rfl
end
/-! rules as data -/
def Rl.nm : Rl → Str
  | .tr _ => "trimmed"
  | .wi _ => "winsorized"
  | .pa => "pairs"
  | .gr _ => "groups"
def Rl.nb : Rl → Nat
  | .tr g => g
  | .wi g => g
  | .pa => 0
  | .gr b => b
def rlD (r : Rl) : D := .tuple [.str r.nm, .int r.nb]
def fr (p : Int × Int) : D := .tuple [.int p.1, .int p.2]
/-! ### equality -/
@[simp] theorem sok_trimmed : PyData.strOk "trimmed" = true := by decide +kernel
@[simp] theorem sne_trimmed_winsorized : (("trimmed" : Str) = "winsorized") = False := eq_false (by decide +kernel)
@[simp] theorem sne_trimmed_pairs : (("trimmed" : Str) = "pairs") = False := eq_false (by decide +kernel)
@[simp] theorem sne_trimmed_groups : (("trimmed" : Str) = "groups") = False := eq_false (by decide +kernel)
@[simp] theorem sok_winsorized : PyData.strOk "winsorized" = true := by decide +kernel
@[simp] theorem sne_winsorized_trimmed : (("winsorized" : Str) = "trimmed") = False := eq_false (by decide +kernel)
@[simp] theorem sne_winsorized_pairs : (("winsorized" : Str) = "pairs") = False := eq_false (by decide +kernel)
@[simp] theorem sne_winsorized_groups : (("winsorized" : Str) = "groups") = False := eq_false (by decide +kernel)
@[simp] theorem sok_pairs : PyData.strOk "pairs" = true := by decide +kernel
@[simp] theorem sne_pairs_trimmed : (("pairs" : Str) = "trimmed") = False := eq_false (by decide +kernel)
@[simp] theorem sne_pairs_winsorized : (("pairs" : Str) = "winsorized") = False := eq_false (by decide +kernel)
@[simp] theorem sne_pairs_groups : (("pairs" : Str) = "groups") = False := eq_false (by decide +kernel)
@[simp] theorem sok_groups : PyData.strOk "groups" = true := by decide +kernel
@[simp] theorem sne_groups_trimmed : (("groups" : Str) = "trimmed") = False := eq_false (by decide +kernel)
@[simp] theorem sne_groups_winsorized : (("groups" : Str) = "winsorized") = False := eq_false (by decide +kernel)
@[simp] theorem sne_groups_pairs : (("groups" : Str) = "pairs") = False := eq_false (by decide +kernel)

theorem eqv_refl : ∀ (n : Nat) (d : D), okD n d = true → PyData.eqv d d = true := by
  intro n
  induction n with
  | zero => intro d h; cases d <;> first | (simp [PyData.eqv]; done) | (simp [okD] at h)
  | succ n ih =>
    have all : ∀ ds : List D, ds.all (okD n) = true → PyData.eqvAll ds ds = true := by
      intro ds
      induction ds with
      | nil => intro _; rfl
      | cons d r ih2 =>
        intro h
        simp only [List.all_cons, Bool.and_eq_true] at h
        simp only [PyData.eqvAll, ih d h.1, ih2 h.2, Bool.and_self]
    intro d h
    cases d with
    | list xs => exact all xs h
    | tuple xs => exact all xs h
    | dict _ => simp [okD] at h
    | _ => simp [PyData.eqv]
/-- data without booleans -/
def okI : Nat → D → Bool
  | _, .none => true
  | _, .int _ => true
  | _, .str x => PyData.strOk x
  | n + 1, .list xs => xs.all (okI n)
  | n + 1, .tuple xs => xs.all (okI n)
  | _, _ => false
theorem okI_okD : ∀ (n : Nat) (d : D), okI n d = true → okD n d = true := by
  intro n
  induction n with
  | zero => intro d h; cases d <;> first | exact h | rfl | (simp [okI] at h)
  | succ n ih =>
    intro d h
    cases d with
    | list xs => exact List.all_eq_true.mpr fun z hz => ih z (List.all_eq_true.mp h z hz)
    | tuple xs => exact List.all_eq_true.mpr fun z hz => ih z (List.all_eq_true.mp h z hz)
    | dict _ => simp [okI] at h
    | bool _ => rfl
    | none => rfl
    | int _ => rfl
    | str _ => exact h
theorem eqv_eq : ∀ (n : Nat) (d e : D), okI n d = true → okI n e = true → PyData.eqv d e = true → d = e := by
  intro n
  induction n with
  | zero => intro d e h h' k; cases d <;> cases e <;> first | rfl | (simp [okI] at h; done) | (simp [okI] at h'; done) | (simp [PyData.eqv] at k; try exact congrArg _ k)
  | succ n ih =>
    have all : ∀ ds es : List D, ds.all (okI n) = true → es.all (okI n) = true → PyData.eqvAll ds es = true → ds = es := by
      intro ds
      induction ds with
      | nil => intro es _ _ k; cases es with
        | nil => rfl
        | cons _ _ => cases k
      | cons d r ih2 =>
        intro es h h' k
        cases es with
        | nil => cases k
        | cons e es =>
          simp only [List.all_cons, Bool.and_eq_true] at h h'
          simp only [PyData.eqvAll, Bool.and_eq_true] at k
          rw [ih d e h.1 h'.1 k.1, ih2 es h.2 h'.2 k.2]
    intro d e h h' k
    cases d <;> cases e <;> first | rfl | (simp [okI] at h; done) | (simp [okI] at h'; done) | (simp [PyData.eqv] at k; done) | skip
    · simp [PyData.eqv] at k; exact congrArg _ k
    · simp [PyData.eqv] at k; exact congrArg _ k
    · exact congrArg _ (all _ _ h h' k)
    · exact congrArg _ (all _ _ h h' k)
theorem eqv_iff {n : Nat} {d e : D} (h : okI n d = true) (h' : okI n e = true) : PyData.eqv d e = true ↔ d = e :=
  ⟨eqv_eq n d e h h', fun z => by rw [← z]; exact eqv_refl n d (okI_okD n d h)⟩
theorem cmp_eqI {a b : RV} (h : okI 8 a.dat = true) (h' : okI 8 b.dat = true) {z : Bool} (hz : z = true ↔ a.dat = b.dat) : cmpop .Eq a b = some z := by
  show (if (okD 8 a.dat && okD 8 b.dat) = true then some (PyData.eqv a.dat b.dat) else none) = _
  rw [okI_okD _ _ h, okI_okD _ _ h']
  show some _ = some _
  congr 1
  rw [Bool.eq_iff_iff]
  exact (eqv_iff h h').trans hz.symm
theorem cmp_neI {a b : RV} (h : okI 8 a.dat = true) (h' : okI 8 b.dat = true) {z : Bool} (hz : z = true ↔ a.dat = b.dat) : cmpop .NotEq a b = some (!z) := by
  show (if (okD 8 a.dat && okD 8 b.dat) = true then some (!PyData.eqv a.dat b.dat) else none) = _
  rw [okI_okD _ _ h, okI_okD _ _ h']
  show some _ = some _
  congr 2
  rw [Bool.eq_iff_iff]
  exact (eqv_iff h h').trans hz.symm
theorem cmp_refl {a b : RV} (h : okD 8 a.dat = true) (e : a.dat = b.dat) : cmpop .Eq a b = some true := by
  show (if (okD 8 a.dat && okD 8 b.dat) = true then some (PyData.eqv a.dat b.dat) else none) = _
  rw [← e, h, eqv_refl 8 _ h]; rfl
theorem cmp_nrefl {a b : RV} (h : okD 8 a.dat = true) (e : a.dat = b.dat) : cmpop .NotEq a b = some false := by
  show (if (okD 8 a.dat && okD 8 b.dat) = true then some (!PyData.eqv a.dat b.dat) else none) = _
  rw [← e, h, eqv_refl 8 _ h]; rfl
@[simp] theorem cmp_self {a : RV} (h : okD 8 a.dat = true) : cmpop .Eq a a = some true := cmp_refl h rfl
@[simp] theorem cmp_nself {a : RV} (h : okD 8 a.dat = true) : cmpop .NotEq a a = some false := cmp_nrefl h rfl
/-- small numbers -/
def sm (i : Int) : Prop := -1000000000 < i ∧ i < 1000000000
theorem mul_sm {i j : Int} (h : sm i) : mulOk i j = true := by
  unfold sm at h
  unfold mulOk
  simp
  omega
theorem mul_sm2 {i j : Int} (h : sm j) : mulOk i j = true := by
  unfold sm at h
  unfold mulOk
  simp
  omega
@[simp] theorem okI_int {n : Nat} {i : Int} : okI n (.int i) = true := by cases n <;> rfl
@[simp] theorem okI_none {n : Nat} : okI n .none = true := by cases n <;> rfl
@[simp] theorem okI_str {n : Nat} {x : Str} : okI n (.str x) = PyData.strOk x := by cases n <;> rfl
@[simp] theorem okI_tup {n : Nat} {xs : List D} : okI (n + 1) (.tuple xs) = xs.all (okI n) := id rfl
@[simp] theorem okI_lst {n : Nat} {xs : List D} : okI (n + 1) (.list xs) = xs.all (okI n) := id rfl
@[simp] theorem okD_int {n : Nat} {i : Int} : okD n (.int i) = true := by cases n <;> rfl
@[simp] theorem okD_bool {n : Nat} {i : Bool} : okD n (.bool i) = true := by cases n <;> rfl
@[simp] theorem okD_none {n : Nat} : okD n .none = true := by cases n <;> rfl
@[simp] theorem okD_str {n : Nat} {x : Str} : okD n (.str x) = PyData.strOk x := by cases n <;> rfl
@[simp] theorem okD_tup {n : Nat} {xs : List D} : okD (n + 1) (.tuple xs) = xs.all (okD n) := id rfl
@[simp] theorem okD_lst {n : Nat} {xs : List D} : okD (n + 1) (.list xs) = xs.all (okD n) := id rfl
@[simp] theorem cmp_ne_ol {ds : List D} (h : okD 8 (.list ds) = true) : cmpop .NotEq (.own ds) (.val (.list ds)) = some false := cmp_nrefl h rfl
@[simp] theorem cmp_ne_lo {ds : List D} (h : okD 8 (.list ds) = true) : cmpop .NotEq (.val (.list ds)) (.own ds) = some false := cmp_nrefl h rfl
@[simp] theorem cmp_ne_bo {ds : List D} (h : okD 8 (.list ds) = true) : cmpop .NotEq (.bor ds) (.own ds) = some false := cmp_nrefl h rfl
@[simp] theorem cmp_ne_ob {ds : List D} (h : okD 8 (.list ds) = true) : cmpop .NotEq (.own ds) (.bor ds) = some false := cmp_nrefl h rfl
@[simp] theorem cmp_ne_bl {ds : List D} (h : okD 8 (.list ds) = true) : cmpop .NotEq (.bor ds) (.val (.list ds)) = some false := cmp_nrefl h rfl
@[simp] theorem cmp_ne_lb {ds : List D} (h : okD 8 (.list ds) = true) : cmpop .NotEq (.val (.list ds)) (.bor ds) = some false := cmp_nrefl h rfl
@[simp] theorem cmp_eq_ol {ds : List D} (h : okD 8 (.list ds) = true) : cmpop .Eq (.own ds) (.val (.list ds)) = some true := cmp_refl h rfl
@[simp] theorem cmp_eq_lo {ds : List D} (h : okD 8 (.list ds) = true) : cmpop .Eq (.val (.list ds)) (.own ds) = some true := cmp_refl h rfl
@[simp] theorem cmp_eq_bo {ds : List D} (h : okD 8 (.list ds) = true) : cmpop .Eq (.bor ds) (.own ds) = some true := cmp_refl h rfl
@[simp] theorem cmp_eq_ob {ds : List D} (h : okD 8 (.list ds) = true) : cmpop .Eq (.own ds) (.bor ds) = some true := cmp_refl h rfl
@[simp] theorem cmp_eq_bl {ds : List D} (h : okD 8 (.list ds) = true) : cmpop .Eq (.bor ds) (.val (.list ds)) = some true := cmp_refl h rfl
@[simp] theorem cmp_eq_lb {ds : List D} (h : okD 8 (.list ds) = true) : cmpop .Eq (.val (.list ds)) (.bor ds) = some true := cmp_refl h rfl
@[simp] theorem okI_fr {n : Nat} {p : Int × Int} : okI (n + 1) (fr p) = true := by simp [fr]
@[simp] theorem okD_fr {n : Nat} {p : Int × Int} : okD (n + 1) (fr p) = true := by simp [fr]
theorem fr_inj {p q : Int × Int} : fr p = fr q ↔ p = q := by
  cases p; cases q
  simp [fr]
@[simp] theorem cmp_eq_fr {p q : Int × Int} : cmpop .Eq (.val (fr p)) (.val (fr q)) = some (decide (p = q)) := cmp_eqI rfl rfl (by simp [fr_inj])
@[simp] theorem cmp_ne_fr {p q : Int × Int} : cmpop .NotEq (.val (fr p)) (.val (fr q)) = some (decide (p ≠ q)) := by
  rw [cmp_neI rfl rfl (z := decide (p = q)) (by simp [fr_inj])]
  by_cases h : p = q <;> simp [h]
theorem cmp_eq_str {x y : Str} (h : PyData.strOk x = true) (h' : PyData.strOk y = true) : cmpop .Eq (.val (.str x)) (.val (.str y)) = some (decide (x = y)) := cmp_eqI (by simpa using h) (by simpa using h') (by simp)
theorem cmp_ne_str {x y : Str} (h : PyData.strOk x = true) (h' : PyData.strOk y = true) : cmpop .NotEq (.val (.str x)) (.val (.str y)) = some (decide (x ≠ y)) := by
  rw [cmp_neI (z := decide (x = y)) (by simpa using h) (by simpa using h') (by simp)]
  by_cases e : x = y <;> simp [e]
@[simp] theorem cmp_in {a b : RV} : cmpop .In a b = inOp a b := id rfl
@[simp] theorem cmp_notin {a b : RV} : cmpop .NotIn a b = (inOp a b).map (!·) := id rfl
@[simp] theorem cmp_is {a b : RV} : cmpop .Is a b = isOp a b := id rfl
@[simp] theorem cmp_isnot {a b : RV} : cmpop .IsNot a b = (isOp a b).map (!·) := id rfl
@[simp] theorem in_str2 {x y z : Str} : inOp (.val (.str x)) (.val (.tuple [.str y, .str z])) = some (decide (y = x) || decide (z = x)) := by
  simp [inOp, flatD, PyData.eqv]
  constructor
theorem in_str2o {x y z : Str} (hx : PyData.strOk x = true) (hy : PyData.strOk y = true) (hz : PyData.strOk z = true) : inOp (.val (.str x)) (.own [.str y, .str z]) = some (decide (y = x) || decide (z = x)) := by
  simp [inOp, PyData.eqv, hx, hy, hz]
  constructor
@[simp] theorem strOk_nm (r : Rl) : PyData.strOk r.nm = true := by cases r <;> simp [Rl.nm]
@[simp] theorem okI_rlD {n : Nat} (r : Rl) : okI (n + 1) (rlD r) = true := by
  simp [rlD]
@[simp] theorem okD_rlD {n : Nat} (r : Rl) : okD (n + 1) (rlD r) = true := by
  simp [rlD]
@[simp] theorem isOp_bool {x y : Bool} : isOp (.val (.bool x)) (.val (.bool y)) = some (decide (x = y)) := id rfl
theorem okD_map {α : Type} {n : Nat} {g : α → D} {l : List α} (h : ∀ a, okD n (g a) = true) : okD (n + 1) (.list (l.map g)) = true := by
  simp [h]
theorem rlD_inj {r q : Rl} : rlD r = rlD q ↔ r = q := by
  cases r <;> cases q <;> simp [rlD, Rl.nm, Rl.nb] <;> omega
@[simp] theorem at_0 {α : Type} {a : α} {l : List α} : L2.atI (a :: l) 0 = some a := by
  have : L2.ixN (a :: l).length 0 = some 0 := by
    unfold L2.ixN
    rw [if_pos (by omega), if_pos (by simp only [List.length_cons]; omega)]
    rfl
  unfold L2.atI
  rw [this]
  rfl
@[simp] theorem at_1 {α : Type} {a b : α} {l : List α} : L2.atI (a :: b :: l) 1 = some b := by
  have : L2.ixN (a :: b :: l).length 1 = some 1 := by
    unfold L2.ixN
    rw [if_pos (by omega), if_pos (by simp only [List.length_cons]; omega)]
    rfl
  unfold L2.atI
  rw [this]
  rfl
@[simp] theorem ix_fr0 {p : Int × Int} : ixop (.val (fr p)) (.val (.int 0)) = some (.val (.int p.1)) := id rfl
@[simp] theorem ix_fr1 {p : Int × Int} : ixop (.val (fr p)) (.val (.int 1)) = some (.val (.int p.2)) := id rfl
@[simp] theorem ix_rl0 {r : Rl} : ixop (.val (rlD r)) (.val (.int 0)) = some (.val (.str r.nm)) := id rfl
@[simp] theorem ix_rl1 {r : Rl} : ixop (.val (rlD r)) (.val (.int 1)) = some (.val (.int r.nb)) := id rfl
@[simp] theorem chkC_fr {w : Wd} {z : Bool} {p : Int × Int} : chkC z (.val (fr p)) w = .ok (.val (fr p)) w := by cases z <;> rfl
@[simp] theorem chkC_rl {w : Wd} {z : Bool} {r : Rl} : chkC z (.val (rlD r)) w = .ok (.val (rlD r)) w := by cases z <;> rfl
/-! ### unfoldings -/
section
variable {n : Nat} {G : Cn} {s : Sl} {w : Wd} {a b e e' t : Expr} {es as : List Expr} {p q r : Pos} {x : Str} {f : EvF} {F : Sl → EvF} {d : D} {ds : List D}
@[simp] theorem unf_nameW : nameW G x s w = match idx G.N x with
  | some i => slotW s[i]? w
  | none => R.of ((G.cst x).map .val) w := id rfl
@[simp] theorem isDnew_D : isDnew (.Dict [] [] p) = true := id rfl
@[simp] theorem isDnew_C {c k} : isDnew (.Constant c k p) = false := id rfl
@[simp] theorem isDnew_N : isDnew (.Name x p) = false := id rfl
@[simp] theorem isDnew_Bi {op} : isDnew (.BinOp a op b p) = false := id rfl
@[simp] theorem isDnew_Un {op} : isDnew (.UnaryOp op a p) = false := id rfl
@[simp] theorem isDnew_Bo {op} : isDnew (.BoolOp op es p) = false := id rfl
@[simp] theorem isDnew_If : isDnew (.IfExp t a b p) = false := id rfl
@[simp] theorem isDnew_Cm {ops bs} : isDnew (.Compare a ops bs p) = false := id rfl
@[simp] theorem isDnew_Tu {k} : isDnew (.Tuple es k p) = false := id rfl
@[simp] theorem isDnew_Li : isDnew (.List es p) = false := id rfl
@[simp] theorem isDnew_Su : isDnew (.Subscript a b p) = false := id rfl
@[simp] theorem isDnew_Ca {g ks} : isDnew (.Call g as ks p) = false := id rfl
@[simp] theorem isDnew_Lc {elt gens sc} : isDnew (.ListComp elt gens sc p) = false := id rfl
@[simp] theorem isDnew_Js : isDnew (.JoinedStr es p) = false := id rfl
@[simp] theorem isDcomp_C {c k} : isDcomp G (.Constant c k p) s = false := id rfl
@[simp] theorem isDcomp_N : isDcomp G (.Name x p) s = false := id rfl
@[simp] theorem isDcomp_Bi {op} : isDcomp G (.BinOp a op b p) s = false := id rfl
@[simp] theorem isDcomp_Un {op} : isDcomp G (.UnaryOp op a p) s = false := id rfl
@[simp] theorem isDcomp_Bo {op} : isDcomp G (.BoolOp op es p) s = false := id rfl
@[simp] theorem isDcomp_If : isDcomp G (.IfExp t a b p) s = false := id rfl
@[simp] theorem isDcomp_Cm {ops bs} : isDcomp G (.Compare a ops bs p) s = false := id rfl
@[simp] theorem isDcomp_Tu {k} : isDcomp G (.Tuple es k p) s = false := id rfl
@[simp] theorem isDcomp_Li : isDcomp G (.List es p) s = false := id rfl
@[simp] theorem isDcomp_Su : isDcomp G (.Subscript a b p) s = false := id rfl
@[simp] theorem isDcomp_Ca {g ks} : isDcomp G (.Call g as ks p) s = false := id rfl
@[simp] theorem isDcomp_Lc {elt tg iter ifs k sc} : isDcomp G (.ListComp elt [⟨tg, iter, ifs, k⟩] sc p) s = (isDct G iter s).isSome := id rfl
@[simp] theorem isDcomp_Js : isDcomp G (.JoinedStr es p) s = false := id rfl
@[simp] theorem isDst_S : isDst G s (.Subscript a b p) = if isSlice b then none else (isDct G a s).map fun q => (q.1, q.2, b) := id rfl
@[simp] theorem isDst_N : isDst G s (.Name x p) = none := id rfl
@[simp] theorem isSlice_N : isSlice (.Name x p) = false := id rfl
@[simp] theorem isSlice_C {c k} : isSlice (.Constant c k p) = false := id rfl
@[simp] theorem isSlice_Bi {op} : isSlice (.BinOp a op b p) = false := id rfl
@[simp] theorem isSlice_Un {op} : isSlice (.UnaryOp op a p) = false := id rfl
@[simp] theorem isSlice_Ca {g ks} : isSlice (.Call g as ks p) = false := id rfl
@[simp] theorem isSlice_Su : isSlice (.Subscript a b p) = false := id rfl
@[simp] theorem isSlice_Sl {l u st} : isSlice (.Slice l u st p) = true := id rfl
@[simp] theorem isSlice_Tu {k} : isSlice (.Tuple es k p) = false := id rfl
def dstC2 (k : Nat) (ps : Dct) (d : D) (s : Sl) (x : RV) (w : Wd) : R Sl := match asKeys x.dat with
  | some ks => if ps.length < 1000 then .ok (s.set k (some (.bor ((dputD ps ks d).map encP)))) w else .bad
  | none => .bad
def dstC1 (F : Sl → EvF) (k : Nat) (ps : Dct) (b : Expr) (s : Sl) (v : RV) (w : Wd) : R Sl := match frz v with
  | some d => (F s b w).bind (dstC2 k ps d s)
  | none => .bad
@[simp] theorem dstC1_v {F k ps b s d w} : dstC1 F k ps b s (.val d) w = (F s b w).bind (dstC2 k ps d s) := id rfl
@[simp] theorem dstC2_eq {k ps d s x w} : dstC2 k ps d s x w = match asKeys x.dat with
  | some ks => if ps.length < 1000 then .ok (s.set k (some (.bor ((dputD ps ks d).map encP)))) w else .bad
  | none => .bad := id rfl
def dgetC2 (ps : Dct) (x y : RV) (w : Wd) : R RV := match asKeys x.dat, frz y with
  | some k, some d => .ok (.val ((dgetD ps k).getD d)) w
  | _, _ => .bad
def dgetC1 (f : EvF) (ps : Dct) (b : Expr) (x : RV) (w : Wd) : R RV := (f b w).bind (dgetC2 ps x)
@[simp] theorem dgetC1_eq {ps b x w} : dgetC1 f ps b x w = (f b w).bind (dgetC2 ps x) := id rfl
@[simp] theorem dgetC2_eq {ps x y w} : dgetC2 ps x y w = match asKeys x.dat, frz y with
  | some k, some d => .ok (.val ((dgetD ps k).getD d)) w
  | _, _ => .bad := id rfl
@[simp] theorem dgetW_eq {ps} : dgetW f ps a b w = (f a w).bind (dgetC1 f ps b) := id rfl
def dixC (ps : Dct) (x : RV) (w : Wd) : R RV := match asKeys x.dat with
  | some k => R.of ((dgetD ps k).map .val) w
  | none => .bad
@[simp] theorem dixC_eq {ps x w} : dixC ps x w = match asKeys x.dat with
  | some k => R.of ((dgetD ps k).map .val) w
  | none => .bad := id rfl
@[simp] theorem dixW_eq {ps} : dixW f ps b w = (f b w).bind (dixC ps) := id rfl
def itcC (o : Option (Nat × Dct)) (G : Cn) (F : Sl → EvF) (e : Expr) (s : Sl) (w : Wd) : R (List D) := match o with
  | some (_, ps) => .ok (ps.map fun p => ktD p.1) w
  | none => iterW true G (F s) e w
@[simp] theorem itcC_n : itcC none G F e s w = iterW true G (F s) e w := id rfl
@[simp] theorem itcC_s {j ps} : itcC (some (j, ps)) G F e s w = .ok (ps.map fun p => ktD p.1) w := id rfl
@[simp] theorem itcW_eq : itcW G F e s w = itcC (isDct G e s) G F e s w := id rfl
@[simp] theorem unf_asgW : asgW G F t e s w = match t with
  | .Name x _ => (match idx G.N x with
    | none => .bad
    | some i => if isDnew e = true then (if noDct s = true then .ok (s.set i (some (.bor []))) w else .bad) else if isDcomp G e s = true then .bad else (match isOwn G e s with
      | some (j, ds) => .ok ((s.set j (some (.val (.list ds)))).set i (some (.val (.list ds)))) w
      | none => (F s e w).bind (asgC G i x s)))
  | .Tuple ts _ _ => (F s e w).bind (tupAC G F ts s)
  | t => (match isDst G s t with
    | some (k, ps, b) => (F s e w).bind (dstC1 F k ps b s)
    | none => (F s e w).bind (stAC G F t s)) := by
  cases t <;> rfl
@[simp] theorem unf_isOwn : isOwn G e s = match e with
  | .Name y _ => (match idx G.N y with
    | some j => (match s[j]? with
      | some (some (.own ds)) => some (j, ds)
      | _ => none)
    | none => none)
  | _ => none := id rfl
@[simp] theorem unf_lstW : lstW f es w = (evsW f es w).bind lstC := id rfl
@[simp] theorem unf_tupW : tupW f es w = (evsW f es w).bind tupC := id rfl
@[simp] theorem unf_frzN : frzN G e s = match e with
  | .Name x _ => (match idx G.N x with
    | some i => (match s[i]? with
      | some (some (.own ds)) => s.set i (some (.val (.list ds)))
      | _ => s)
    | none => s)
  | _ => s := id rfl
@[simp] theorem unf_iterW {z : Bool} : iterW z G f e w = match isRange G e with
  | some as => (evsW f as w).bind rngC
  | none => (f e w).bind (seqC z) := id rfl
@[simp] theorem unf_isRange : isRange G e = match e with
  | .Call (.Name g _) as [] _ => if !G.dfn g && decide (bltTab.lookup g = some Blt.range) then some as else none
  | _ => none := id rfl
@[simp] theorem seqOf_t : seqOf (.val (.tuple ds)) = some ds := id rfl
@[simp] theorem seqOf_l : seqOf (.val (.list ds)) = some ds := id rfl
@[simp] theorem seqOf_o : seqOf (.own ds) = some ds := id rfl
@[simp] theorem seqOf_b : seqOf (.bor ds) = some ds := id rfl
@[simp] theorem stTs_nil : stTs G F [] [] s w = .ok s w := id rfl
@[simp] theorem stTs_cons : stTs G F (t :: es) (d :: ds) s w = (stT G F t d s w).bind (stsC G F es ds) := id rfl
@[simp] theorem unf_stT : stT G F t d s w = match t with
  | .Name x _ => (match idx G.N x with
    | some i => .ok (s.set i (some (.val d))) w
    | none => .bad)
  | .Subscript (.Name x _) b _ => (match b with
    | .Slice _ _ _ _ => .bad
    | b => (match idx G.N x with
      | some k => (match s[k]? with
        | some (some (.own ds)) => (F s b w).bind (stiC k ds d s)
        | _ => .bad)
      | none => .bad))
  | _ => .bad := id rfl
@[simp] theorem unf_tgt {N : List Str} : tgt N e d s = match e with
  | .Name x _ => (match idx N x with
    | some i => some (s.set i (some (.val d)))
    | none => none)
  | .Tuple es _ _ => (match d with
    | .tuple ds => tgtS N es ds s
    | _ => none)
  | _ => none := id rfl
@[simp] theorem tgtS_nil {N : List Str} : tgtS N [] [] s = some s := id rfl
@[simp] theorem tgtS_name {N : List Str} : tgtS N (.Name x p :: es) (d :: ds) s = match idx N x with
      | some i => tgtS N es ds (s.set i (some (.val d)))
      | none => none := id rfl
@[simp] theorem ifsW_nil : ifsW f [] w = .ok true w := id rfl
@[simp] theorem ifsW_one : ifsW f [e] w = (f e w).bind boolC := id rfl
theorem eltW_eq {elt tg : Expr} {ifs : List Expr} : eltW G F elt tg ifs s d w = (R.of (tgt G.N tg d s) w).bind (eltC1 F elt ifs) := by
  unfold eltW
  cases tgt G.N tg d s with
  | none => rfl
  | some s' =>
    show R.bind _ _ = R.bind _ _
    congr 1
    funext b w
    cases b <;> rfl
@[simp] theorem unf_ownOf {N : List Str} {sc : Scope} : ownOf N sc = sc.names.filterMap fun p => if p.2 = NameKind.local ∨ p.2 = NameKind.cell then (idx N p.1).map fun i => (p.1, i) else none := id rfl
@[simp] theorem wipeS_nil : wipeS s [] = s := id rfl
@[simp] theorem wipeS_cons {i : Nat} {l : List Nat} : wipeS s (i :: l) = (wipeS s l).set i none := id rfl
@[simp] theorem unf_augW {op : Operator} : augW G F t op e s w = match t with
  | .Name x _ => (match idx G.N x with
    | some i => (match s[i]? with
      | some (some v) => (F s e w).bind (augC op v i s)
      | _ => .bad)
    | none => .bad)
  | _ => .bad := id rfl
@[simp] theorem aug_int {i j : Int} : augop .Add (.val (.int i)) (.val (.int j)) = some (.val (.int (i + j))) := id rfl
theorem aug_oo {xs ys : List D} (h : xs.length + ys.length ≤ 100000) : augop .Add (.own xs) (.own ys) = some (.own (xs ++ ys)) := if_pos h
@[simp] theorem exprW_call {g as ks} (h : isMut (.Call g as ks p) = none) (h' : isApp (.Call g as ks p) = none) : exprW G F (.Call g as ks p) s w = (F s (.Call g as ks p) w).bind (keepC s) := by
  unfold exprW
  rw [h]
  dsimp only
  rw [h']
  rfl
@[simp] theorem isMut_name : isMut (.Call (.Name x p) as [] q) = none := by rfl
@[simp] theorem isApp_name : isApp (.Call (.Name x p) as [] q) = none := by rfl
end
end TM

namespace TM
open PySem
theorem cut_lh {α : Type} {xs : List α} {i j : Int} (hi : 0 ≤ i) (hj : 0 ≤ j) : cut xs (some i) (some j) = (xs.drop i.toNat).take (j.toNat - i.toNat) := by
  unfold cut HT.sIx
  simp only []
  rw [if_neg (by omega), if_neg (by omega)]
  rcases Nat.le_total i.toNat xs.length with h | h
  · rw [Nat.min_eq_left h]
    rcases Nat.le_total j.toNat xs.length with h' | h'
    · rw [Nat.min_eq_left h']
    · rw [Nat.min_eq_right h', List.take_of_length_le (by simp), List.take_of_length_le (by simp; omega)]
  · rw [Nat.min_eq_right h, List.drop_of_length_le (Nat.le_refl _), List.drop_of_length_le h]; simp
theorem cut_h {α : Type} {xs : List α} {j : Int} (hj : 0 ≤ j) : cut xs none (some j) = xs.take j.toNat := by
  unfold cut HT.sIx
  simp only []
  rw [if_neg (by omega)]
  simp [List.take_eq_take_iff]
theorem cut_l {α : Type} {xs : List α} {i : Int} (hi : 0 ≤ i) : cut xs (some i) none = xs.drop i.toNat := by
  unfold cut HT.sIx
  simp only []
  rw [if_neg (by omega)]
  rcases Nat.le_total i.toNat xs.length with h | h
  · rw [Nat.min_eq_left h, List.take_of_length_le (by simp)]
  · rw [Nat.min_eq_right h, List.drop_of_length_le (Nat.le_refl _), List.drop_of_length_le h]; simp
theorem cut_ln {α : Type} {xs : List α} {i : Int} (hi : i < 0) : cut xs (some i) none = xs.drop (i + xs.length).toNat := by
  unfold cut HT.sIx
  simp only []
  rw [if_pos hi, List.take_of_length_le (by simp)]
theorem cut_hn {α : Type} {xs : List α} {j : Int} (hj : j < 0) : cut xs none (some j) = xs.take (j + xs.length).toNat := by
  unfold cut HT.sIx
  simp only []
  rw [if_pos hj]
  simp
@[simp] theorem cut_nn {α : Type} {xs : List α} : cut xs none none = xs := by
  unfold cut HT.sIx
  simp
/-- an item -/
def itm (xs : List Int) (i : Nat) : Int := xs.getD i 0
theorem at_map {α : Type} {f : α → D} {xs : List α} {i : Int} {d : α} (h0 : 0 ≤ i) (h1 : i < xs.length) : L2.atI (xs.map f) i = some (f (xs.getD i.toNat d)) := by
  unfold L2.atI L2.ixN
  rw [if_pos h0, if_pos (by simpa using h1)]
  simp [List.getD_eq_getElem?_getD]
  have : i.toNat < xs.length := by omega
  simp [this]
theorem at_itm {f : Int → D} {xs : List Int} {i : Int} (h0 : 0 ≤ i) (h1 : i < xs.length) : L2.atI (xs.map f) i = some (f (itm xs i.toNat)) := at_map h0 h1
theorem at_nat {f : Int → D} {xs : List Int} {i : Nat} (h1 : i < xs.length) : L2.atI (xs.map f) (i : Int) = some (f (itm xs i)) := at_map (by omega) (by omega)
theorem itm_mem {xs : List Int} {i : Nat} (h : i < xs.length) : itm xs i ∈ xs := by
  unfold itm
  rw [List.getD_eq_getElem?_getD, List.getElem?_eq_getElem h]
  exact List.getElem_mem h
theorem at_mapn {α : Type} {f : α → D} {xs : List α} {i : Int} {d : α} (h0 : i < 0) (h1 : -(xs.length : Int) ≤ i) : L2.atI (xs.map f) i = some (f (xs.getD (i + xs.length).toNat d)) := by
  unfold L2.atI L2.ixN
  rw [if_neg (by omega), if_pos (by simpa using h1)]
  have : (i + xs.length).toNat < xs.length := by omega
  simp [List.getD_eq_getElem?_getD, this]
theorem at_intn {xs : List Int} {i : Int} (h0 : i < 0) (h1 : -(xs.length : Int) ≤ i) : L2.atI (xs.map PyData.int) i = some (.int (itm xs (i + xs.length).toNat)) := at_mapn h0 h1
/-! ### added lists -/
section
variable {xs ys : List D}
theorem bin_ol {a b : RV} (ha : a.lst? = some xs) (hb : b.lst? = some ys) (h : xs.length + ys.length ≤ 100000) (h1 : ∀ i, a ≠ .val (.int i)) (h2 : ∀ i, a ≠ .val (.str i)) (h3 : ∀ i, a ≠ .val (.tuple i)) : binop .Add a b = some (.own (xs ++ ys)) := by
  have : binop .Add a b = addL a b := by
    cases a with
    | val d => cases d <;> first | rfl | cases ha
    | own d => rfl
    | bor d => rfl
  rw [this]
  unfold addL
  rw [ha, hb]
  exact if_pos h
theorem bin_oo (h : xs.length + ys.length ≤ 100000) : binop .Add (.own xs) (.own ys) = some (.own (xs ++ ys)) := if_pos h
theorem bin_vo (h : xs.length + ys.length ≤ 100000) : binop .Add (.val (.list xs)) (.own ys) = some (.own (xs ++ ys)) := if_pos h
theorem bin_lo (h : xs.length + ys.length ≤ 100000) : binop .Add (.val (.list xs)) (.own ys) = some (.own (xs ++ ys)) := if_pos h
theorem bin_ov (h : xs.length + ys.length ≤ 100000) : binop .Add (.own xs) (.val (.list ys)) = some (.own (xs ++ ys)) := if_pos h
theorem bin_vv (h : xs.length + ys.length ≤ 100000) : binop .Add (.val (.list xs)) (.val (.list ys)) = some (.own (xs ++ ys)) := if_pos h
theorem bin_bo (h : xs.length + ys.length ≤ 100000) : binop .Add (.bor xs) (.own ys) = some (.own (xs ++ ys)) := if_pos h
theorem bin_bv (h : xs.length + ys.length ≤ 100000) : binop .Add (.bor xs) (.val (.list ys)) = some (.own (xs ++ ys)) := if_pos h
theorem bin_rep {k : Int} (h0 : 0 ≤ k) (h1 : k < 100000) (h : xs.length * k.toNat ≤ 100000) : binop .Mult (.own xs) (.val (.int k)) = some (.own (List.replicate k.toNat xs).flatten) := by
  show (if (decide (-(2 ^ 63) ≤ k) && decide (k < 2 ^ 63) && decide (xs.length * k.toNat ≤ 100000)) = true then _ else _) = _
  rw [if_pos]
  simp
  omega
end
/-! ### an item put into its place -/
theorem take_flt {s : List Int} (h : Srt s) (t : Int) : s.take (s.filter fun x => decide (x ≤ t)).length = s.filter (fun x => decide (x ≤ t)) ∧ s.drop (s.filter fun x => decide (x ≤ t)).length = s.filter (fun x => decide (t < x)) := by
  induction s with
  | nil => exact ⟨rfl, rfl⟩
  | cons x r ih =>
    have hx := List.pairwise_cons.mp h
    obtain ⟨i1, i2⟩ := ih hx.2
    by_cases q : t < x
    · have e : r.filter (fun x => decide (x ≤ t)) = [] := List.filter_eq_nil_iff.mpr fun z hz => by have := hx.1 z hz; simp; omega
      have e2 : r.filter (fun x => decide (t < x)) = r := List.filter_eq_self.mpr fun z hz => by have := hx.1 z hz; simp; omega
      have q' : ¬ x ≤ t := by omega
      simp [List.filter_cons, q, q', e, e2]
    · have q' : x ≤ t := by omega
      simp [List.filter_cons, q, q', i1, i2]
theorem put_srt {pre : List Int} {t : Int} : (srt pre).take ((srt pre).filter fun x => decide (x ≤ t)).length ++ (t :: (srt pre).drop ((srt pre).filter fun x => decide (x ≤ t)).length) = srt (pre ++ [t]) := by
  obtain ⟨e1, e2⟩ := take_flt (srt_srt pre) t
  refine srt_unq ?_ ?_ (srt_srt _)
  · refine List.perm_middle.trans ?_
    rw [List.take_append_drop]
    exact ((srt_prm pre).cons t).trans ((List.perm_append_comm (l₁ := [t]) (l₂ := pre)).trans (srt_prm _).symm)
  · rw [e1, e2]
    refine List.pairwise_append.mpr ⟨(srt_srt pre).filter _, List.pairwise_cons.mpr ⟨fun z hz => ?_, (srt_srt pre).filter _⟩, fun y hy z hz => ?_⟩
    · have := (List.mem_filter.mp hz).2
      simp at this; omega
    · have a := (List.mem_filter.mp hy).2
      simp at a
      rcases List.mem_cons.mp hz with rfl | hz
      · exact a
      · have := (List.mem_filter.mp hz).2
        simp at this; omega
/-! ### loops over the image of a list -/
theorem forL_map {α : Type} {g : α → D} {f : D → Sl → Wd → R Out} {ts : List α} {s : Sl} {w : Wd} {m : R Out} (hm : forL f (ts.map g) s w = m) (I : List α → Sl → Wd → Prop) (h0 : I [] s w) (hs : ∀ pre t post s w, ts = pre ++ t :: post → I pre s w → ∀ P : Sl → Wd → Prop, (∀ s w, I (pre ++ [t]) s w → P s w) → Stp (f (g t) s w) P) : ∃ s' w', m = .ok (.nxt s') w' ∧ I ts s' w' := by
  subst hm
  have aux : ∀ (post pre : List α) (s : Sl) (w : Wd), ts = pre ++ post → I pre s w → ∃ s' w', forL f (post.map g) s w = .ok (.nxt s') w' ∧ I ts s' w' := by
    intro post
    induction post with
    | nil => intro pre s w e i; rw [List.append_nil] at e; rw [e]; exact ⟨s, w, rfl, i⟩
    | cons d r ih =>
      intro pre s w e i
      have h := hs pre d r s w e i (I (pre ++ [d])) (fun _ _ z => z)
      cases hf : f (g d) s w with
      | bad => rw [hf] at h; exact h.elim
      | exc c w' => rw [hf] at h; exact h.elim
      | ok o w' =>
        rw [hf] at h
        cases o with
        | nxt s' =>
          obtain ⟨s2, w2, e2, i2⟩ := ih (pre ++ [d]) s' w' (by simp [e]) h
          refine ⟨s2, w2, ?_, i2⟩
          show (f (g d) s w).bind _ = _
          rw [hf]
          exact e2
        | rs c s' => exact (h : False).elim
        | cnt s' =>
          obtain ⟨s2, w2, e2, i2⟩ := ih (pre ++ [d]) s' w' (by simp [e]) h
          refine ⟨s2, w2, ?_, i2⟩
          show (f (g d) s w).bind _ = _
          rw [hf]
          exact e2
        | ret _ => exact h.elim
        | brk _ => exact h.elim
  exact aux ts [] s w rfl h0
/-! ### ranges -/
theorem rangeA1 {b : Int} (h1 : b ≤ 1000000) (h0 : -1000000 ≤ b) : rangeA [.val (.int b)] = some ((List.range b.toNat).map fun (i : Nat) => .int (i : Int)) := by
  show rangeL 0 b 1 = _
  unfold rangeL
  rw [if_pos (by simp; omega)]
  congr 1
  have : ((b - 0 + 1 - 1) / 1).toNat = b.toNat := by omega
  rw [this]
  apply List.map_congr_left
  intro i _
  congr 1; omega
theorem rangeA2 {a b : Int} (h1 : b ≤ 1000000) (h0 : -1000000 ≤ b) (h2 : a ≤ 1000000) (h3 : -1000000 ≤ a) : rangeA [.val (.int a), .val (.int b)] = some ((List.range (b - a).toNat).map fun (i : Nat) => .int (a + (i : Int))) := by
  show rangeL a b 1 = _
  unfold rangeL
  rw [if_pos (by simp; omega)]
  congr 1
  have : ((b - a + 1 - 1) / 1).toNat = (b - a).toNat := by omega
  rw [this]
  apply List.map_congr_left
  intro i _
  congr 1; omega
theorem rangeA3 {m : Nat} {c : Nat} (hc : 0 < c) (h1 : m * c ≤ 1000000) (h2 : c < 1000000) : rangeA [.val (.int 0), .val (.int ((m * c : Nat) : Int)), .val (.int (c : Int))] = some ((List.range m).map fun (i : Nat) => .int (((i * c : Nat) : Int))) := by
  show rangeL 0 _ c = _
  unfold rangeL
  rw [if_pos (by simp; omega)]
  congr 1
  have : ((((m * c : Nat) : Int) - 0 + c - 1) / c).toNat = m := by
    have e : (((m * c : Nat) : Int) - 0 + c - 1) = ((m * c + (c - 1) : Nat) : Int) := by omega
    rw [e, ← Int.natCast_ediv, Int.toNat_natCast, Nat.mul_comm m c, Nat.mul_add_div hc, Nat.div_eq_of_lt (by omega)]; rfl
  rw [this]
  apply List.map_congr_left
  intro i _
  congr 1
  simp
theorem prs_range : ∀ xs : List Int, prs xs = (List.range xs.length).flatMap fun i => (xs.drop i).map fun y => itm xs i + y
  | [] => rfl
  | x :: r => by
    rw [prs, prs_range r, List.length_cons, List.range_succ_eq_map, List.flatMap_cons, List.flatMap_map]
    rfl
/-- at most as many -/
theorem prs_le {xs : List Int} (h : xs.length ≤ 9) : (prs xs).length ≤ 45 := by
  have := prs_len xs
  have h2 : xs.length * (xs.length + 1) ≤ 9 * 10 := Nat.mul_le_mul h (by omega)
  omega
theorem mem_prs {xs : List Int} {t m : Int} (h : ∀ v ∈ xs, -m ≤ v ∧ v ≤ m) (ht : t ∈ prs xs) : -(2 * m) ≤ t ∧ t ≤ 2 * m := by
  induction xs with
  | nil => cases ht
  | cons x r ih =>
    have hx := h x List.mem_cons_self
    rcases List.mem_append.mp ht with q | q
    · obtain ⟨y, hy, rfl⟩ := List.mem_map.mp q
      have := h y hy
      omega
    · exact ih (fun v hv => h v (List.mem_cons_of_mem _ hv)) q
theorem sum_bd {m : Int} : ∀ {xs : List Int}, (∀ v ∈ xs, -m ≤ v ∧ v ≤ m) → -(m * xs.length) ≤ xs.sum ∧ xs.sum ≤ m * xs.length
  | [], _ => by simp
  | x :: r, h => by
    have hx := h x List.mem_cons_self
    have := sum_bd (xs := r) fun v hv => h v (List.mem_cons_of_mem _ hv)
    simp only [List.sum_cons, List.length_cons]
    rw [Int.natCast_add, Int.mul_add]
    omega
/-! ### the rules of a size -/
def rulesL (n : Nat) : List Rl := (List.range ((n + 1) / 2)).map .tr ++ (List.range ((n + 1) / 2)).map .wi ++ [.pa] ++ (((List.range n).map (· + 1)).filter fun b => n % b == 0).map .gr
theorem rulesL_ok {n : Nat} (h : n ≤ 9) {r : Rl} (hr : r ∈ rulesL n) (h0 : 0 < n := by omega) : r.ok n := by
  unfold rulesL at hr
  simp only [List.mem_append, List.mem_map, List.mem_range, List.mem_filter, List.mem_singleton] at hr
  rcases hr with ((⟨g, hg, rfl⟩ | ⟨g, hg, rfl⟩) | rfl) | ⟨b, ⟨⟨c, hc, rfl⟩, hb⟩, rfl⟩
  · show 2 * g < n; omega
  · show 2 * g < n; omega
  · exact h0
  · exact ⟨by omega, h0, by simpa using hb⟩
theorem rulesL_len (n : Nat) (h : n ≤ 9) : (rulesL n).length ≤ 30 := by
  unfold rulesL
  have := List.length_filter_le (fun b => n % b == 0) ((List.range n).map (· + 1))
  simp at *
  omega
/-! ### drawn lists -/
abbrev Wo (o : Orc) : Wd := [.orc o, .scr []]
theorem compL_orc {f : D → Wd → R (Option D)} {c : Orc → Int} {P : Int → Prop} (hf : ∀ d o, OkO o → f d (Wo o) = .ok (some (.int (c o))) (Wo (Orc.tl o))) (hP : ∀ o, OkO o → P (c o)) : ∀ (ds : List D) (o : Orc), OkO o → ∃ (xs : List Int) (o' : Orc), compL f ds (Wo o) = .ok (xs.map .int) (Wo o') ∧ xs.length = ds.length ∧ (∀ v ∈ xs, P v) ∧ OkO o'
  | [], o, ho => ⟨[], o, rfl, rfl, (fun _ h => nomatch h), ho⟩
  | d :: r, o, ho => by
    obtain ⟨xs, o', e, hl, hv, ho'⟩ := compL_orc hf hP r _ (okO_tl ho)
    refine ⟨c o :: xs, o', ?_, by simp [hl], fun v h => ?_, ho'⟩
    · show (f d (Wo o)).bind _ = _
      rw [hf d o ho]
      show (compL f r _).bind _ = _
      rw [e]
      rfl
    · rcases List.mem_cons.mp h with rfl | h
      · exact hP o ho
      · exact hv v h
theorem compL_none {α : Type} {g : α → D} {f : D → Wd → R (Option D)} {w : Wd} : ∀ {ds : List α}, (∀ d ∈ ds, f (g d) w = .ok none w) → compL f (ds.map g) w = .ok [] w
  | [], _ => rfl
  | d :: r, k => by
    show (f (g d) w).bind _ = _
    rw [k d List.mem_cons_self]
    show (compL f (r.map g) w).bind _ = _
    rw [compL_none fun z hz => k z (List.mem_cons_of_mem _ hz)]
    rfl
theorem ixN_nat {n i : Nat} (h : i < n) : L2.ixN n (i : Int) = some i := by
  unfold L2.ixN
  rw [if_pos (by omega), if_pos (by omega)]
  simp
end TM

namespace TM
open PySem
section
variable {n : Nat} {G : Cn} {s : Sl} {w : Wd} {a b e e' t : Expr} {p q r : Pos} {x : Str} {F : Sl → EvF}
/-- x.append(..) -/
def appC (i : Nat) (ds : List D) (s : Sl) (y : RV) (w : Wd) : R Sl := match frz y with
      | some d => (match mutop "append" ds d with
        | some ds' => .ok (s.set i (some (.own ds'))) w
        | none => .bad)
      | none => .bad
theorem appC_v {i ds d} (h : ds.length < 100000) : appC i ds s (.val d) w = .ok (s.set i (some (.own (ds ++ [d])))) w := by
  unfold appC mutop
  simp only [frz, if_true]
  rw [if_pos (show ds.length < cap from h)]
theorem appC_o {i ds d} (h : ds.length < 100000) : appC i ds s (.own d) w = .ok (s.set i (some (.own (ds ++ [.list d])))) w := by
  unfold appC mutop
  simp only [frz, if_true]
  rw [if_pos (show ds.length < cap from h)]
@[simp] theorem exprW_append : exprW G F (.Call (.Attribute (.Name x p) "append" q) [a] [] r) s w = match idx G.N x with
  | some i => (match s[i]? with
    | some (some (.own ds)) => (F s a w).bind (appC i ds s)
    | _ => .bad)
  | none => .bad := by
  unfold exprW isMut
  simp only [true_or, if_true]
  rfl
end
/-! ### lists of fractions -/
theorem cmp_eq_frs {a b : RV} {ps qs : List (Int × Int)} (ha : a.dat = .list (ps.map fr)) (hb : b.dat = .list (qs.map fr)) : cmpop .Eq a b = some (decide (ps = qs)) := by
  refine cmp_eqI ?_ ?_ ?_
  · rw [ha]; simp
  · rw [hb]; simp
  · rw [ha, hb]
    simp only [decide_eq_true_eq, PyData.list.injEq]
    constructor
    · intro h; rw [h]
    · intro h
      have inj : ∀ (l m : List (Int × Int)), l.map fr = m.map fr → l = m := by
        intro l
        induction l with
        | nil => intro m hm; cases m with
          | nil => rfl
          | cons _ _ => cases hm
        | cons p l ih => intro m hm; cases m with
          | nil => cases hm
          | cons q m =>
            simp only [List.map_cons, List.cons.injEq] at hm
            rw [fr_inj.mp hm.1, ih m hm.2]
      exact inj _ _ h
@[simp] theorem cmp_eq_vo2 {a b c d : Int × Int} : cmpop .Eq (.val (.list [fr a, fr b])) (.own [fr c, fr d]) = some (decide (a = c ∧ b = d)) := by
  rw [cmp_eq_frs (ps := [a, b]) (qs := [c, d]) rfl rfl]
  congr 1
  simp
@[simp] theorem cmp_eq_oo2 {a b c d : Int × Int} : cmpop .Eq (.own [fr a, fr b]) (.own [fr c, fr d]) = some (decide (a = c ∧ b = d)) := by
  rw [cmp_eq_frs (ps := [a, b]) (qs := [c, d]) rfl rfl]
  congr 1
  simp
/-! ### lists of integers -/
theorem int_inj : ∀ {l m : List Int}, l.map PyData.int = m.map PyData.int ↔ l = m := by
  intro l m
  constructor
  · induction l generalizing m with
    | nil => intro h; cases m with
      | nil => rfl
      | cons _ _ => cases h
    | cons x l ih => intro h; cases m with
      | nil => cases h
      | cons y m =>
        simp only [List.map_cons, List.cons.injEq, PyData.int.injEq] at h
        rw [h.1, ih h.2]
  · intro h; rw [h]
theorem cmp_ne_ints {a b : RV} {l m : List Int} (ha : a.dat = .list (l.map .int)) (hb : b.dat = .list (m.map .int)) : cmpop .NotEq a b = some (decide (l ≠ m)) := by
  rw [cmp_neI (z := decide (l = m)) (by rw [ha]; simp) (by rw [hb]; simp) (by rw [ha, hb]; simp [int_inj])]
  by_cases h : l = m <;> simp [h]
theorem cmp_eq_ints {a b : RV} {l m : List Int} (ha : a.dat = .list (l.map .int)) (hb : b.dat = .list (m.map .int)) : cmpop .Eq a b = some (decide (l = m)) :=
  cmp_eqI (by rw [ha]; simp) (by rw [hb]; simp) (by rw [ha, hb]; simp [int_inj])
theorem any_eqv {v : Int} : ∀ xs : List Int, ((xs.map PyData.int).any fun z => PyData.eqv z (.int v)) = decide (v ∈ xs)
  | [] => by simp
  | x :: r => by
    rw [List.map_cons, List.any_cons, any_eqv r]
    show (x == v || decide (v ∈ r)) = _
    by_cases h : x = v
    · subst h; simp
    · have h' : ¬ v = x := fun z => h z.symm
      simp [h, h']
@[simp] theorem in_ints_l {v : Int} {xs : List Int} : inOp (.val (.int v)) (.val (.list (xs.map .int))) = some (decide (v ∈ xs)) := by
  show (if (okD 7 (.int v) && okD 8 (.list (xs.map .int))) = true then some ((xs.map PyData.int).any fun z => PyData.eqv z (.int v)) else none) = _
  rw [any_eqv]
  simp
@[simp] theorem in_ints_o {v : Int} {xs : List Int} : inOp (.val (.int v)) (.own (xs.map .int)) = some (decide (v ∈ xs)) := by
  show (if (okD 7 (.int v) && okD 8 (.list (xs.map .int))) = true then some ((xs.map PyData.int).any fun z => PyData.eqv z (.int v)) else none) = _
  rw [any_eqv]
  simp
@[simp] theorem in_ints_b {v : Int} {xs : List Int} : inOp (.val (.int v)) (.bor (xs.map .int)) = some (decide (v ∈ xs)) := by
  show (if (okD 7 (.int v) && okD 8 (.list (xs.map .int))) = true then some ((xs.map PyData.int).any fun z => PyData.eqv z (.int v)) else none) = _
  rw [any_eqv]
  simp
theorem rangeA2s {a b : Int} (h1 : b ≤ 1000000) (h0 : -1000000 ≤ b) (h2 : a ≤ 1000000) (h3 : -1000000 ≤ a) : rangeA [.val (.int a), .val (.int b)] = some ((seqI a (b - a).toNat).map .int) := by
  rw [rangeA2 h1 h0 h2 h3]
  unfold seqI
  rw [List.map_map]
  rfl
/-- rule == (name, number) -/
theorem cmp_eq_rl {r q : Rl} : cmpop .Eq (.val (rlD r)) (.val (rlD q)) = some (decide (r = q)) := cmp_eqI (by simp) (by simp) (by simp [rlD_inj])
/-- another value put in by slices -/
theorem cut_set {xs : List Int} {i : Nat} {v : Int} (h : i < xs.length) : cut (xs.map PyData.int) none (some (i : Int)) ++ (.int v :: cut (xs.map PyData.int) (some ((i : Int) + 1)) none) = (xs.set i v).map .int := by
  rw [cut_map, cut_map, cut_h (by omega), cut_l (by omega), ← put_set h, List.map_append, List.map_cons, show ((i : Int) + 1).toNat = i + 1 by omega, Int.toNat_natCast]
end TM

namespace TM
open PySem
/-! ### exceptions, stepping -/
section
variable {n : Nat} {G : Cn} {s : Sl} {w w' : Wd} {a b e e' t : Expr} {es as : List Expr} {p q r p2 p3 : Pos} {x c : Str} {f : EvF} {F : Sl → EvF} {d : D} {ds : List D}
@[simp] theorem contE_rs {f rr} : contE f rr (.rs c s) w = .ok (.rs c s) w := id rfl
@[simp] theorem outV_rs : outV (.ok (.rs c s) w) = .exc c w := id rfl
@[simp] theorem ex_Raise {m : Str} {k : Nat} : ex (n + 1) G (.Raise (some (.Call (.Name x p) [.Constant (.str m) k p2] [] p3)) none q) s w = if (G.xs x).isSome = true then .ok (.rs x s) w else .bad := id rfl
@[simp] theorem ctch_exc : ctch G e s w (.exc c w') = if topB evF G s e w = true then .ok (.rs c s) w' else .bad := id rfl
@[simp] theorem okR_ok {α : Type} {x : α} : okR (.ok x w) = true := id rfl
@[simp] theorem topB_call : topB (n + 1) G s (.Call (.Name x p) as [] q) w = ((G.dfn x || isMk G x) && okR (evsW (ev n G s) as w)) := id rfl
def topMC (n : Nat) (G : Cn) (s : Sl) (as : List Expr) (r : R RV) : Bool := match r with
  | .ok x w1 => (spcK x).isSome && okR (evsW (ev n G s) as w1)
  | _ => false
@[simp] theorem topB_meth {o m : Str} : topB (n + 1) G s (.Call (.Attribute (.Name o p) m p2) as [] q) w = topMC n G s as (ev n G s (.Name o p) w) := id rfl
@[simp] theorem topMC_ok {x : RV} : topMC n G s as (.ok x w) = ((spcK x).isSome && okR (evsW (ev n G s) as w)) := id rfl
def topIC (n : Nat) (G : Cn) (s : Sl) (a b : Expr) (r : R RV) : Bool := match r with
  | .ok (.val (.bool true)) w => topB n G s a w
  | .ok (.val (.bool false)) w => topB n G s b w
  | _ => false
@[simp] theorem topB_ife : topB (n + 1) G s (.IfExp t a b q) w = topIC n G s a b (ev n G s t w) := id rfl
@[simp] theorem topIC_ok {z : Bool} : topIC n G s a b (.ok (.val (.bool z)) w) = if z = true then topB n G s a w else topB n G s b w := by cases z <;> rfl
@[simp] theorem clause_eq {nn m : Str} : clause [.ExceptHandler (some (.Name x p)) (some nn) [.Assign [.Name m p2] (.Name nn p3) q] r] = some (x, nn, m) := by
  simp [clause]
def tryC (G : Cn) (hs : List ExceptHandler) (r : R Out) : R Out := match clause hs with
  | some (x, n', m) => if (G.xs x).isSome then tryW G x n' m r else .bad
  | none => .bad
@[simp] theorem ex_Try {hs : List ExceptHandler} {body : List Stmt} : ex (n + 1) G (.Try body hs [] [] p) s w = tryC G hs (TM.execs (ex n G) body s w) := by
  show (match clause hs, ([] : List Stmt), ([] : List Stmt) with
      | some (x, n', m), [], [] => if (G.xs x).isSome then tryW G x n' m (TM.execs (ex n G) body s w) else .bad
      | _, _, _ => .bad) = _
  unfold tryC
  cases clause hs with
  | none => rfl
  | some q => rfl
@[simp] theorem tryC_eq {nn m : Str} {y : R Out} : tryC G [.ExceptHandler (some (.Name x p)) (some nn) [.Assign [.Name m p2] (.Name nn p3) q] r] y = if (G.xs x).isSome then tryW G x nn m y else .bad := by
  unfold tryC
  rw [clause_eq]
@[simp] theorem tryW_nxt {nn m : Str} : tryW G x nn m (.ok (.nxt s) w) = .ok (.nxt s) w := id rfl
@[simp] theorem tryW_ret {nn m : Str} {v : RV} : tryW G x nn m (.ok (.ret v) w) = .ok (.ret v) w := id rfl
@[simp] theorem tryW_rs {nn m : Str} : tryW G x nn m (.ok (.rs c s) w) = (match G.xs c, idx G.N nn, idx G.N m with
    | some l, some i, some j => if l.contains x && !decide (i = j) then .ok (.nxt ((s.set j (some (.val (exd c)))).set i none)) w else .bad
    | _, _, _ => .bad) := id rfl
@[simp] theorem tryW_ite {nn m : Str} {c : Prop} [Decidable c] {y z : R Out} : tryW G x nn m (if c then y else z) = if c then tryW G x nn m y else tryW G x nn m z := by split <;> rfl
@[simp] theorem isOp_exd : isOp (.val (exd c)) (.val .none) = some false := id rfl
@[simp] theorem isOp_nn : isOp (.val .none) (.val .none) = some true := id rfl
end
end TM

namespace TM
open PySem
theorem abs_if (a : Int) : (if a < 0 then -a else a) = (a.natAbs : Int) := by omega
theorem gcd_ok {t b : Int} (h0 : 0 < b) (h1 : b < 1073741824) : divOk (Int.gcd t b : Int) = true := by
  have h2 : Int.gcd t b ∣ b.natAbs := Int.gcd_dvd_natAbs_right t b
  have h3 := Nat.le_of_dvd (by omega) h2
  have h4 : 0 < Int.gcd t b := Nat.pos_of_dvd_of_pos h2 (by omega)
  unfold divOk
  simp
  omega
/-- small fractions -/
structure okf (p : Int × Int) : Prop where
  a : sm p.1
  b : 0 < p.2
  c : p.2 < 16384
theorem okf.sb {p : Int × Int} (h : okf p) : sm p.2 := by
  have := h.b; have := h.c
  unfold sm; omega
theorem okf.mul {p q : Int × Int} (h : okf p) (k : okf q) : 0 < p.2 * q.2 ∧ p.2 * q.2 < 268435456 := by
  have h1 := h.b; have h2 := h.c; have h3 := k.b; have h4 := k.c
  have := Int.mul_pos h1 h3
  have := Int.mul_lt_mul h2 (Int.le_of_lt k.c) h3 (by omega)
  omega
theorem okf_low {t b : Int} (ht : sm t) (h0 : 0 < b) (h1 : b < 16384) : okf (lowF t b) := by
  have := low_bd (t := t) h0 (m := 999999999) (by unfold sm at ht; omega)
  exact ⟨by unfold sm; omega, low_pos h0, by have := low_le (t := t) h0; omega⟩
def frl (b t : Int) : D := fr (lowF t b)
def prow (xs : List Int) (i : Nat) : List Int := (xs.drop i).map fun y => itm xs i + y
theorem prow_len (xs : List Int) (i : Nat) : (prow xs i).length ≤ xs.length := by simp [prow]
theorem pre_len {xs : List Int} (h1 : xs.length ≤ 9) {pre post : List Nat} {t : Nat} (e : List.range xs.length = pre ++ t :: post) : (pre.flatMap (prow xs)).length + (prow xs t).length ≤ 45 := by
  have := prs_le h1
  rw [prs_range, show (fun i => (xs.drop i).map fun y => itm xs i + y) = prow xs from rfl, e] at this
  simp only [List.flatMap_append, List.flatMap_cons, List.length_append] at this
  omega
theorem mem_grp {b : Nat} {xs : List Int} {t : Int} (h : ∀ v ∈ xs, -1000000 ≤ v ∧ v ≤ 1000000) (h1 : xs.length ≤ 9) (ht : t ∈ grp b xs) : sm t := by
  obtain ⟨i, _, rfl⟩ := List.mem_map.mp ht
  have := sum_bd (m := 1000000) (xs := (xs.drop (i * b)).take b) fun v hv => h v (List.mem_of_mem_drop (List.mem_of_mem_take hv))
  have hl : ((xs.drop (i * b)).take b).length ≤ 9 := by simp; omega
  unfold sm
  omega
def res (r : Rl) (xs : List Int) : Int × Int := lowF (num r xs) (den r xs.length)
theorem kept_ne {g : Nat} {xs : List Int} (h : 2 * g < xs.length) : kept g xs ≠ [] := by
  intro e
  have := kept_len (g := g) (xs := xs) (by omega)
  rw [e] at this
  simp at this
  omega
theorem take1_drop {xs : List Int} {i : Nat} (h : i < xs.length) : (xs.drop i).take 1 = [xs.getD i 0] := by
  rw [List.drop_eq_getElem_cons h, List.getD_eq_getElem?_getD, List.getElem?_eq_getElem h]
  rfl
theorem kept_first {g : Nat} {xs : List Int} (h : 2 * g < xs.length) : (kept g xs).take 1 = [lowV g xs] := by
  unfold kept lowV
  rw [List.take_take, Nat.min_eq_left (by omega), take1_drop (by simp; omega)]
theorem kept_last {g : Nat} {xs : List Int} (h : 2 * g < xs.length) : (kept g xs).drop (xs.length - 2 * g - 1) = [highV g xs] := by
  unfold kept highV
  rw [List.drop_take, show xs.length - 2 * g - (xs.length - 2 * g - 1) = 1 by omega, List.drop_drop, show g + (xs.length - 2 * g - 1) = xs.length - 1 - g by omega, take1_drop (by simp; omega)]
theorem rep_one (k : Nat) (v : Int) : (List.replicate k [PyData.int v]).flatten = (List.replicate k v).map PyData.int := by
  induction k with
  | zero => rfl
  | succ k ih => rw [List.replicate_succ, List.flatten_cons, ih, List.replicate_succ]; rfl
theorem rep_sum (k : Nat) (v : Int) : (List.replicate k v).sum = k * v := by
  induction k with
  | zero => simp
  | succ k ih => rw [List.replicate_succ, List.sum_cons, ih, Int.natCast_add, Int.add_mul]; omega
/-- good data -/
structure okX (xs : List Int) : Prop where
  a : 1 ≤ xs.length
  b : xs.length ≤ 9
  c : ∀ v ∈ xs, -99 ≤ v ∧ v ≤ 99
theorem okX.big {xs : List Int} (h : okX xs) : ∀ v ∈ xs, -1000000 ≤ v ∧ v ≤ 1000000 := fun v hv => by have := h.c v hv; omega
def parts (r : Rl) (xs : List Int) : List Int := match r with
  | .tr g => [num (.tr g) xs]
  | .wi g => [num (.wi g) xs]
  | .pa => srt (prs xs)
  | .gr b => srt (grp b xs)
def pden (r : Rl) (n : Nat) : Nat := match r with
  | .tr g => den (.tr g) n
  | .wi g => den (.wi g) n
  | .pa => 2
  | .gr b => b
def pmV (r : Rl) (ds : List D) : RV := match r with
  | .tr _ => .own ds
  | .wi _ => .own ds
  | .pa => .val (.list ds)
  | .gr _ => .val (.list ds)
theorem abs_if2 (a : Int) : (if a < 0 then -a else a) = (a.natAbs : Int) := by omega
theorem res_ok {r : Rl} {xs : List Int} (hr : r.ok xs.length) (hx : okX xs) : okf (res r xs) := by
  have h1 := num_bds hr hx.c
  have h2 := den_pos hr
  have h3 := den_le hr hx.b
  exact okf_low (by unfold sm; omega) (by omega) (by omega)
theorem okX_set {xs : List Int} {i : Nat} {v : Int} (hx : okX xs) (h0 : -99 ≤ v) (h1 : v ≤ 99) : okX (xs.set i v) := ⟨by simpa using hx.a, by simpa using hx.b, fun u hu => by
  rcases mem_of_set hu with q | q
  · exact hx.c u q
  · omega⟩
theorem okX_perm {xs ys : List Int} (h : ys.Perm xs) (hx : okX xs) : okX ys := ⟨by rw [h.length_eq]; exact hx.a, by rw [h.length_eq]; exact hx.b, fun v hv => hx.c v (h.mem_iff.mp hv)⟩
/-- a draw below a size -/
theorem nat_draw {o : Orc} (ho : OkO o) {m : Nat} (h : 0 < m) : ∃ j : Nat, o 0 m = j ∧ j < m := by
  have := ho 0 m (by omega)
  exact ⟨(o 0 m).toNat, by omega, by omega⟩
/-- another value at a place -/
def chg (xs : List Int) (i : Nat) (v : Int) : List Int := xs.set i v
@[simp] theorem chg_len {xs : List Int} {i : Nat} {v : Int} : (chg xs i v).length = xs.length := by simp [chg]
theorem okX_chg {xs : List Int} {i : Nat} {v : Int} (hx : okX xs) (h0 : -99 ≤ v) (h1 : v ≤ 99) : okX (chg xs i v) := okX_set hx h0 h1
theorem chg_get {xs : List Int} {i j : Nat} {v : Int} (h : i < xs.length) : itm (chg xs i v) j = if j = i then v else itm xs j := getD_set h
theorem chg_self {xs : List Int} {i : Nat} (h : i < xs.length) : chg xs i (itm xs i) = xs := set_self h
theorem chg_chg {xs : List Int} {i : Nat} {u v : Int} : chg (chg xs i u) i v = chg xs i v := by unfold chg; rw [List.set_set]
theorem chg_mono {r : Rl} {xs : List Int} {i : Nat} {u v : Int} (h : i < xs.length) (huv : u ≤ v) : num r (chg xs i u) ≤ num r (chg xs i v) := num_set_mono h huv
theorem chg_raise {r : Rl} {xs : List Int} {i : Nat} {v : Int} (hr : r.ok xs.length) (h : i < xs.length) (hv : itm xs i ≤ v) : num r xs ≤ num r (chg xs i v) ∧ num r (chg xs i v) ≤ num r xs + den r xs.length * (v - itm xs i) := num_raise hr h hv
theorem chg_cut {xs : List Int} {i : Nat} {v : Int} (h : i < xs.length) : cut (xs.map PyData.int) none (some (i : Int)) ++ (.int v :: cut (xs.map PyData.int) (some ((i : Int) + 1)) none) = (chg xs i v).map .int := cut_set h
theorem chg_map {xs : List Int} {i : Nat} {v : Int} : (xs.map PyData.int).set i (.int v) = (chg xs i v).map .int := by unfold chg; simp [List.map_set]
theorem chg_big {xs : List Int} {i : Nat} {v : Int} (hx : okX xs) (h0 : -1000000 ≤ v) (h1 : v ≤ 1000000) : ∀ u ∈ chg xs i v, -1000000 ≤ u ∧ u ≤ 1000000 := fun u hu => by
  rcases mem_of_set hu with q | q
  · exact hx.big u q
  · omega
theorem res_eq_iff {r : Rl} {xs ys : List Int} (hr : r.ok xs.length) (hl : ys.length = xs.length) : res r ys = res r xs ↔ num r ys = num r xs := by
  unfold res
  rw [hl]
  exact low_inj (by have := den_pos hr; omega)
/-- the same result with another value at a place -/
def sameB (r : Rl) (xs : List Int) (i : Nat) (v : Int) : Bool := decide (num r (chg xs i v) = num r xs)
theorem sameB_res {r : Rl} {xs : List Int} {i : Nat} {v : Int} (hr : r.ok xs.length) : decide (res r (chg xs i v) = res r xs) = sameB r xs i v := by
  unfold sameB
  rw [decide_eq_decide]
  exact res_eq_iff hr (by simp)
/-- the values that leave the result -/
def sameL (r : Rl) (xs : List Int) (i : Nat) (lo hi : Int) : List Int := (seqI lo (hi + 1 - lo).toNat).filter (sameB r xs i)
theorem sameL_len {r : Rl} {xs : List Int} {i : Nat} {lo hi : Int} : (sameL r xs i lo hi).length ≤ (hi + 1 - lo).toNat := by
  have := List.length_filter_le (sameB r xs i) (seqI lo (hi + 1 - lo).toNat)
  rw [seqI_len] at this
  exact this
/-- does a place matter -/
def stillB (r : Rl) (xs : List Int) (d : Int) (i : Nat) : Bool := sameB r xs i (itm xs i + d) && sameB r xs i (itm xs i + -d)
def stillL (r : Rl) (xs : List Int) (d : Int) (l : List Nat) : List Nat := l.filter (stillB r xs d)
def natD (i : Nat) : D := .int (i : Int)
theorem stillL_len {r : Rl} {xs : List Int} {d : Int} {l : List Nat} : (stillL r xs d l).length ≤ l.length := List.length_filter_le _ _
theorem stillL_app {r : Rl} {xs : List Int} {d : Int} {l : List Nat} {i : Nat} : stillL r xs d (l ++ [i]) = if stillB r xs d i = true then stillL r xs d l ++ [i] else stillL r xs d l := by
  unfold stillL
  rw [List.filter_append, List.filter_cons]
  split <;> simp
theorem compL_two {f : D → Wd → R (Option D)} {d1 d2 a b : D} {w : Wd} (h1 : f d1 w = .ok (some a) w) (h2 : f d2 w = .ok (some b) w) : compL f [d1, d2] w = .ok [a, b] w := by
  show (f d1 w).bind _ = _
  rw [h1]
  show ((f d2 w).bind _).bind _ = _
  rw [h2]
  rfl
theorem ite3 {α : Type} {A B C : Prop} [Decidable A] [Decidable B] [Decidable C] {X Y : α} (h : A → B → C) : (if A then if B then if C then X else Y else X else X) = X := by
  by_cases a : A
  · by_cases b : B
    · simp [a, b, h a b]
    · simp [b]
  · simp [a]
@[simp] theorem okD_natD {n i : Nat} : okD n (natD i) = true := by unfold natD; simp
@[simp] theorem okI_natD {n i : Nat} : okI n (natD i) = true := by unfold natD; simp
theorem tupfr {a b : Int} : PyData.tuple [.int a, .int b] = fr (a, b) := rfl
@[simp] theorem cmp_ne_bool {a b : Bool} : cmpop .NotEq (.val (.bool a)) (.val (.bool b)) = some (a != b) := by cases a <;> cases b <;> rfl
@[simp] theorem cmp_eq_bool {a b : Bool} : cmpop .Eq (.val (.bool a)) (.val (.bool b)) = some (a == b) := by cases a <;> cases b <;> rfl
theorem natD_map {L : List Nat} : L.map natD = (L.map fun (i : Nat) => (i : Int)).map PyData.int := by
  rw [List.map_map]
  rfl
theorem in_nat {j : Nat} {L : List Nat} : inOp (.val (.int (j : Int))) (.val (.list (L.map natD))) = some (decide (j ∈ L)) := by
  rw [natD_map, in_ints_l]
  congr 1
  rw [decide_eq_decide, List.mem_map]
  constructor
  · rintro ⟨a, ha, e⟩
    have : a = j := by omega
    rw [← this]; exact ha
  · intro h; exact ⟨j, h, rfl⟩
/-- one group, two groups -/
theorem num_gr1 {b : Nat} {xs : List Int} (h : xs.length = b) (hb : 0 < b) : num (.gr b) xs = 2 * xs.sum := by
  show mid2 (grp b xs) = _
  have e : grp b xs = [xs.sum] := by
    unfold grp
    rw [h, Nat.div_self hb]
    show [((xs.drop (0 * b)).take b).sum] = _
    rw [Nat.zero_mul, List.drop_zero, List.take_of_length_le (by omega)]
  rw [e]
  have : ∀ x : Int, mid2 [x] = x + x := fun x => by unfold mid2; simp [srt, ins]
  rw [this]
  omega
theorem num_gr2 {b : Nat} {xs : List Int} (h : xs.length = 2 * b) (hb : 0 < b) : num (.gr b) xs = xs.sum := by
  show mid2 (grp b xs) = _
  have e : grp b xs = [(xs.take b).sum, (xs.drop b).sum] := by
    unfold grp
    rw [h, Nat.mul_div_cancel _ hb]
    show [((xs.drop (0 * b)).take b).sum, ((xs.drop (1 * b)).take b).sum] = _
    rw [Nat.zero_mul, List.drop_zero, Nat.one_mul, List.take_of_length_le (l := xs.drop b) (by simp; omega)]
  have hs : xs.sum = (xs.take b).sum + (xs.drop b).sum := by rw [← List.sum_append, List.take_append_drop]
  rw [e]
  have : ∀ x y : Int, mid2 [x, y] = x + y := fun x y => by
    have hp := sum_perm (srt_prm [x, y])
    have hl := srt_len [x, y]
    unfold mid2
    match hq : srt [x, y], hl with
    | [u, v], _ =>
      rw [hq] at hp
      simp at hp ⊢
      omega
  rw [this, ← hs]
/-! ### turned over, sorted pairs -/
def revC (x : RV) (w : Wd) : R RV := R.of (x.lst?.map fun ds => .own ds.reverse) w
@[simp] theorem revC_l {w : Wd} {ds : List D} : revC (.val (.list ds)) w = .ok (.own ds.reverse) w := id rfl
@[simp] theorem revC_o {w : Wd} {ds : List D} : revC (.own ds) w = .ok (.own ds.reverse) w := id rfl
@[simp] theorem revC_b {w : Wd} {ds : List D} : revC (.bor ds) w = .ok (.own ds.reverse) w := id rfl
@[simp] theorem subW_rev {f : EvF} {a : Expr} {k p q r w} : subW f a (.Slice none none (some (.UnaryOp .USub (.Constant (.int 1) k p) q)) r) w = (f a w).bind revC := id rfl
theorem asInts_fr : ∀ (ps : List (Int × Int)), ps ≠ [] → asInts (ps.map fr) = none
  | [], h => absurd rfl h
  | p :: r, _ => rfl
theorem asPairs_fr : ∀ (ps : List (Int × Int)), asPairs (ps.map fr) = some ps
  | [] => rfl
  | p :: r => by
    show (asPairs (r.map fr)).map ((p.1, p.2) :: ·) = _
    rw [asPairs_fr r]
    rfl
theorem sort_fr (ps : List (Int × Int)) : sortOp (ps.map fr) = some (.own ((srtP ps).map fr)) := by
  cases ps with
  | nil => rfl
  | cons p r =>
    unfold sortOp
    rw [asInts_fr _ (by simp), asPairs_fr]
    rfl
@[simp] theorem bl_sorted_fr {ps : List (Int × Int)} : bltop .sorted [.own (ps.map fr)] = some (.own ((srtP ps).map fr)) := by
  show sortOp (ps.map fr) = _
  exact sort_fr ps
theorem lowV_eq {g : Nat} {xs : List Int} (h : g < xs.length) : L2.atI ((srt xs).map PyData.int) (g : Int) = some (.int (lowV g xs)) := at_nat (by simpa using h)
theorem highV_eq {g : Nat} {xs : List Int} (h : g < xs.length) : L2.atI ((srt xs).map PyData.int) ((xs.length : Int) - 1 - g) = some (.int (highV g xs)) := by
  rw [show (xs.length : Int) - 1 - g = ((xs.length - 1 - g : Nat) : Int) by omega]
  exact at_nat (by simp; omega)
theorem cut_kept {α : Type} {f : α → D} {l : List α} {g n : Nat} (h : 2 * g ≤ n) : cut (l.map f) (some (g : Int)) (some ((n : Int) - g)) = ((l.drop g).take (n - 2 * g)).map f := by
  rw [cut_map, cut_lh (by omega) (by omega)]
  congr 2
  omega
/-- the clamped values -/
def winsL (xs : List Int) (g : Nat) : List Int := xs.map (clamp (lowV g xs) (highV g xs))
@[simp] theorem winsL_len {xs : List Int} {g : Nat} : (winsL xs g).length = xs.length := by simp [winsL]
theorem winsL_ok {xs : List Int} {g : Nat} (hx : okX xs) (h : 2 * g < xs.length) : okX (winsL xs g) := ⟨by simpa using hx.a, by simpa using hx.b, fun v hv => by
  obtain ⟨u, hu, rfl⟩ := List.mem_map.mp hv
  have h1 : -99 ≤ lowV g xs ∧ lowV g xs ≤ 99 := srt_bd hx.c (by omega)
  have h2 : -99 ≤ highV g xs ∧ highV g xs ≤ 99 := srt_bd hx.c (by omega)
  have := hx.c u hu
  unfold clamp
  omega⟩
theorem winsL_res {xs : List Int} {g : Nat} (h : 2 * g < xs.length) : res (.tr 0) (winsL xs g) = res (.wi g) xs := by
  unfold res
  rw [num_tr0, den_tr0, winsL_len]
  unfold winsL
  rw [clamp_sum h]
  rfl
theorem trimD_ok {xs : List Int} {g : Nat} (hx : okX xs) (h : 2 * g < xs.length) : okX (trimD xs g) := ⟨by rw [trimD_len (by omega)]; omega, by rw [trimD_len (by omega)]; have := hx.b; omega, fun v hv => hx.c v (by
  have := (trimD_perm xs g).mem_iff.mp hv
  unfold kept at this
  exact mem_srt.mp (List.mem_of_mem_drop (List.mem_of_mem_take this)))⟩
theorem trimD_res {xs : List Int} {g : Nat} (h : 2 * g < xs.length) : res (.tr 0) (trimD xs g) = res (.tr g) xs := by
  unfold res
  rw [num_tr0, den_tr0, trimD_sum, trimD_len (by omega)]
  rfl
theorem rev_ok {xs : List Int} (hx : okX xs) : okX xs.reverse := okX_perm (List.reverse_perm _) hx
theorem rev_res {r : Rl} {xs : List Int} (hr : r.ok xs.length) : res r xs.reverse = res r xs := by
  unfold res
  rw [num_rev hr, List.length_reverse]
def movL (xs : List Int) (c : Int) : List Int := xs.map (· + c)
def sclL (xs : List Int) (c : Int) : List Int := xs.map (· * c)
@[simp] theorem movL_len {xs : List Int} {c : Int} : (movL xs c).length = xs.length := by simp [movL]
@[simp] theorem sclL_len {xs : List Int} {c : Int} : (sclL xs c).length = xs.length := by simp [sclL]
theorem movL_map {xs : List Int} {c : Int} : xs.map (fun v => PyData.int (v + c)) = (movL xs c).map .int := by unfold movL; rw [List.map_map]; rfl
theorem sclL_map {xs : List Int} {c : Int} : xs.map (fun v => PyData.int (v * c)) = (sclL xs c).map .int := by unfold sclL; rw [List.map_map]; rfl
theorem movL_res {r : Rl} {xs : List Int} {c : Int} (hr : r.ok xs.length) : res r (movL xs c) = lowF (num r xs + den r xs.length * c) (den r xs.length) := by
  unfold res
  rw [movL_len]
  unfold movL
  rw [num_add hr]
theorem sclL_res {r : Rl} {xs : List Int} {c : Int} (hr : r.ok xs.length) : res r (sclL xs c) = lowF (num r xs * c) (den r xs.length) := by
  unfold res
  rw [sclL_len]
  unfold sclL
  rw [num_mul hr]
/-! ### how many are borne -/
/-- the first values of some groups replaced -/
def putG (b : Nat) (v : Int) (xs : List Int) : Nat → List Int
  | 0 => xs
  | k + 1 => (putG b v xs k).set (k * b) v
@[simp] theorem putG_len {b : Nat} {v : Int} {xs : List Int} : ∀ {k : Nat}, (putG b v xs k).length = xs.length
  | 0 => rfl
  | k + 1 => by unfold putG; rw [List.length_set, putG_len]
theorem putG_get {b : Nat} (hb : 0 < b) {v : Int} {xs : List Int} : ∀ {k i : Nat}, k * b ≤ xs.length → i < xs.length → itm (putG b v xs k) i = if i % b = 0 ∧ i / b < k then v else itm xs i
  | 0, i, _, _ => by simp [putG]
  | k + 1, i, h, hi => by
    have hk : k * b < xs.length := by rw [Nat.add_mul] at h; omega
    unfold putG
    have e := getD_set (xs := putG b v xs k) (i := k * b) (j := i) (v := v) (by simpa using hk)
    unfold itm at *
    rw [e]
    by_cases c : i = k * b
    · subst c
      rw [if_pos rfl, if_pos ⟨Nat.mul_mod_left k b, by rw [Nat.mul_div_cancel _ hb]; omega⟩]
    · rw [if_neg c]
      have := putG_get hb (v := v) (xs := xs) (k := k) (i := i) (by omega) hi
      unfold itm at this
      rw [this]
      by_cases c2 : i % b = 0
      · have hd := Nat.div_add_mod i b
        have c3 : i / b ≠ k := fun z => c (by rw [← z, Nat.mul_comm]; omega)
        by_cases c4 : i / b < k
        · rw [if_pos ⟨c2, c4⟩, if_pos ⟨c2, by omega⟩]
        · rw [if_neg (fun z => c4 z.2), if_neg (fun z => c4 (by omega))]
      · rw [if_neg (fun z => c2 z.1), if_neg (fun z => c2 z.1)]
theorem cast_div (a b : Nat) : (a : Int).fdiv b = ((a / b : Nat) : Int) := by rw [Int.fdiv_eq_ediv_of_nonneg _ (by omega)]; simp
theorem pred_half (a : Nat) (h : 0 < a) : ((a : Int) - 1).fdiv 2 = (((a - 1) / 2 : Nat) : Int) := by rw [Int.fdiv_eq_ediv_of_nonneg _ (by omega)]; omega
theorem putG_map {b : Nat} {v : Int} {xs : List Int} {k : Nat} : ((putG b v xs k).map PyData.int).set (k * b) (.int v) = (putG b v xs (k + 1)).map .int := by
  show _ = ((putG b v xs k).set (k * b) v).map PyData.int
  rw [List.map_set]
/-! ### lists of lists -/
def lD (g : List Int) : D := .list (g.map .int)
theorem at_lst {gs : List (List Int)} {i : Nat} (h : i < gs.length) : L2.atI (gs.map lD) (i : Int) = some (.list (gs[i].map .int)) := by
  rw [at_map (d := []) (by omega) (by omega)]
  simp [List.getD_eq_getElem?_getD, h, lD]
theorem okD_lD {n : Nat} {g : List Int} : okD (n + 1) (lD g) = true := by unfold lD; simp
/-- how many values were replaced -/
theorem cnt_put {b many : Nat} {v : Int} {xs : List Int} (hb : 0 < b) (hm : many * b ≤ xs.length) (hv : ∀ u ∈ xs, u ≠ v) : ((List.range xs.length).filter fun k => decide (itm (putG b v xs many) k ≠ itm xs k)).length = many := by
  have hp : ((List.range xs.length).filter fun k => decide (itm (putG b v xs many) k ≠ itm xs k)).Perm ((List.range many).map (· * b)) := by
    refine (List.perm_ext_iff_of_nodup (List.nodup_range.filter _) ?_).mpr fun k => ?_
    · refine List.pairwise_map.mpr (List.nodup_range.imp fun h z => h (Nat.eq_of_mul_eq_mul_right hb z))
    · simp only [List.mem_filter, List.mem_range, decide_eq_true_eq, List.mem_map]
      constructor
      · rintro ⟨h1, h2⟩
        rw [putG_get hb hm h1] at h2
        by_cases c : k % b = 0 ∧ k / b < many
        · refine ⟨k / b, c.2, ?_⟩
          have := Nat.div_add_mod k b
          rw [Nat.mul_comm] at this
          omega
        · rw [if_neg c] at h2
          exact absurd rfl h2
      · rintro ⟨i, hi, rfl⟩
        have hl : i * b < xs.length := by
          have := Nat.mul_le_mul_right b (show i + 1 ≤ many by omega)
          rw [Nat.add_mul] at this
          omega
        refine ⟨hl, ?_⟩
        rw [putG_get hb hm hl, if_pos ⟨Nat.mul_mod_left i b, by rw [Nat.mul_div_cancel _ hb]; exact hi⟩]
        exact fun z => hv _ (itm_mem hl) z.symm
  rw [hp.length_eq]
  simp
theorem any_eqv_fr {p : Int × Int} : ∀ ps : List (Int × Int), ((ps.map fr).any fun z => PyData.eqv z (fr p)) = decide (p ∈ ps)
  | [] => by simp
  | q :: r => by
    rw [List.map_cons, List.any_cons, any_eqv_fr r]
    have e : PyData.eqv (fr q) (fr p) = decide (q = p) := by
      rw [Bool.eq_iff_iff, decide_eq_true_eq]
      exact (eqv_iff (n := 1) (by simp [fr]) (by simp [fr])).trans fr_inj
    rw [e]
    by_cases h : q = p
    · subst h; simp
    · have h' : ¬ p = q := fun z => h z.symm
      simp [h, h']
theorem in_frs {p : Int × Int} {ps : List (Int × Int)} : inOp (.val (fr p)) (.val (.list (ps.map fr))) = some (decide (p ∈ ps)) := by
  show (if (okD 7 (fr p) && okD 8 (.list (ps.map fr))) = true then some ((ps.map fr).any fun z => PyData.eqv z (fr p)) else none) = _
  rw [any_eqv_fr]
  simp
theorem bl_sorted_frl {ps : List (Int × Int)} : bltop .sorted [.val (.list (ps.map fr))] = some (.own ((srtP ps).map fr)) := by
  show sortOp (ps.map fr) = _
  exact sort_fr ps
theorem frl_map {b : Int} {ts : List Int} : ts.map (frl b) = (ts.map fun t => lowF t b).map fr := by rw [List.map_map]; rfl
theorem bl_min_l {xs : List Int} {m : Int} (h : minL xs = some m) : bltop .min [.val (.list (xs.map .int))] = some (.val (.int m)) := by simp [bltop, asInts_map, h]
theorem bl_max_l {xs : List Int} {m : Int} (h : maxL xs = some m) : bltop .max [.val (.list (xs.map .int))] = some (.val (.int m)) := by simp [bltop, asInts_map, h]
theorem bl_min_o {xs : List Int} {m : Int} (h : minL xs = some m) : bltop .min [.own (xs.map .int)] = some (.val (.int m)) := by simp [bltop, asInts_map, h]
theorem bl_max_o {xs : List Int} {m : Int} (h : maxL xs = some m) : bltop .max [.own (xs.map .int)] = some (.val (.int m)) := by simp [bltop, asInts_map, h]
theorem bl_min_b {xs : List Int} {m : Int} (h : minL xs = some m) : bltop .min [.bor (xs.map .int)] = some (.val (.int m)) := by simp [bltop, asInts_map, h]
theorem isGr_nm {r : Rl} : isGr r = true ↔ r.nm = "groups" := by cases r <;> simp [isGr, Rl.nm]
/-- two values at most: all rules give the mean -/
theorem res_two {r : Rl} {xs : List Int} (hr : r.ok xs.length) (h2 : xs.length ≤ 2) (h0 : 0 < xs.length) : res r xs = lowF xs.sum xs.length := by
  by_cases hg : isGr r = true
  · cases r with
    | gr b =>
      obtain ⟨b0, b1, b2⟩ := hr
      have hb := Nat.le_of_dvd b1 (Nat.dvd_of_mod_eq_zero b2)
      have hd0 : (0 : Int) < den (.gr b) xs.length := by show (0 : Int) < ((2 * b : Nat) : Int); omega
      unfold res
      rw [low_eq_iff hd0 (by omega)]
      have hc : xs.length = b ∨ xs.length = 2 * b := by
        have hm := Nat.div_add_mod xs.length b
        have : b = 1 ∨ b = 2 := by omega
        rcases this with rfl | rfl <;> omega
      show num (.gr b) xs * _ = _ * ((2 * b : Nat) : Int)
      rcases hc with hc | hc
      · rw [num_gr1 hc b0, hc, Int.natCast_mul, Int.mul_comm 2 xs.sum, Int.mul_assoc]; rfl
      · rw [num_gr2 hc b0, hc]
    | _ => cases hg
  · have hg : isGr r = false := by simpa using hg
    match xs, h0, h2 with
    | [x], _, _ => exact low_sym (c := 2 * x) hr hg (by simp) (by simp; omega)
    | [x, y], _, _ =>
      refine low_sym (c := x + y) hr hg (by simp) ?_
      have e : ([x, y].map fun v => x + y - v) = [y, x] := by simp; omega
      rw [e]
      exact .swap _ _ _
theorem putG_mem {b : Nat} {v : Int} {xs : List Int} : ∀ {k : Nat} {u : Int}, u ∈ putG b v xs k → u ∈ xs ∨ u = v
  | 0, u, h => .inl h
  | k + 1, u, h => by
    rcases mem_of_set (show u ∈ (putG b v xs k).set (k * b) v from h) with q | q
    · exact putG_mem q
    · exact .inr q
theorem great_gr {b : Nat} {xs : List Int} (hr : (Rl.gr b).ok xs.length) (h9 : xs.length ≤ 9) (hl : ∀ u ∈ xs, -99 ≤ u) : 100000 * (den (.gr b) xs.length : Int) < num (.gr b) (putG b 1000000 xs (bear (.gr b) xs.length + 1)) := by
  obtain ⟨b0, b1, b2⟩ := hr
  have hb9 := Nat.le_trans (Nat.le_of_dvd b1 (Nat.dvd_of_mod_eq_zero b2)) h9
  have hne := grp_ne b0 b1 b2
  have hmd : xs.length / b * b = xs.length := by have := Nat.div_add_mod xs.length b; rw [Nat.mul_comm]; omega
  have hbr : bear (.gr b) xs.length = (xs.length / b - 1) / 2 := rfl
  rw [hbr]
  generalize hmq : xs.length / b = mq at *
  obtain ⟨many, hmany⟩ : ∃ many, many = (mq - 1) / 2 + 1 := ⟨_, rfl⟩
  rw [← hmany]
  have hmb : many * b ≤ xs.length := by
    have := Nat.mul_le_mul_right b (show many ≤ mq by omega)
    omega
  have hyl : (putG b 1000000 xs many).length = xs.length := putG_len
  have hlow : ∀ u ∈ putG b 1000000 xs many, -99 ≤ u := fun u hu => by
    rcases putG_mem hu with q | q
    · exact hl u q
    · omega
  have hgl : (grp b (putG b 1000000 xs many)).length = mq := by rw [grp_len, hyl, hmq]
  have hf : ∀ i, i < mq → ((((putG b 1000000 xs many).drop (i * b)).take b).length = b) := fun i hi => by
    have := Nat.mul_le_mul_right b (show i + 1 ≤ mq by omega)
    rw [Nat.add_mul] at this
    simp
    omega
  have hbig : ∀ i, i < many → (1000000 : Int) - 792 ≤ (((putG b 1000000 xs many).drop (i * b)).take b).sum := fun i hi => by
    have hlen := hf i (by omega)
    have hib : i * b < xs.length := by
      have := Nat.mul_le_mul_right b (show i + 1 ≤ many by omega)
      rw [Nat.add_mul] at this
      omega
    have hmem : (1000000 : Int) ∈ ((putG b 1000000 xs many).drop (i * b)).take b := by
      have hg := putG_get b0 (v := 1000000) (xs := xs) (k := many) (i := i * b) hmb hib
      rw [if_pos ⟨Nat.mul_mod_left i b, by rw [Nat.mul_div_cancel _ b0]; exact hi⟩] at hg
      refine List.mem_iff_getElem.mpr ⟨0, by omega, ?_⟩
      simp only [List.getElem_take, List.getElem_drop, Nat.add_zero]
      unfold itm at hg
      rw [List.getD_eq_getElem?_getD, List.getElem?_eq_getElem (by omega)] at hg
      simpa using hg
    have := sum_ge_mem hmem fun u hu => hlow u (List.mem_of_mem_drop (List.mem_of_mem_take hu))
    rw [hlen] at this
    omega
  have hcnt : cntB (1000000 - 792) (grp b (putG b 1000000 xs many)) ≤ mq - many := by
    unfold cntB grp
    rw [hyl, hmq, List.countP_map, show mq = many + (mq - many) by omega, List.range_add, List.countP_append]
    have z1 : (List.range many).countP ((fun v : Int => decide (v < 1000000 - 792)) ∘ fun i => (((putG b 1000000 xs many).drop (i * b)).take b).sum) = 0 := List.countP_eq_zero.mpr fun i hi => by
      have := hbig i (List.mem_range.mp hi)
      simp only [Function.comp, decide_eq_true_eq]
      omega
    rw [z1]
    have := List.countP_le_length (p := ((fun v : Int => decide (v < 1000000 - 792)) ∘ fun i => (((putG b 1000000 xs many).drop (i * b)).take b).sum)) (l := (List.range (mq - many)).map (many + ·))
    simp at this ⊢
    omega
  have hall : ∀ t ∈ grp b (putG b 1000000 xs many), -891 ≤ t := fun t ht => by
    obtain ⟨i, hi, rfl⟩ := List.mem_map.mp ht
    have hi := List.mem_range.mp hi
    rw [hyl, hmq] at hi
    have hlen := hf i hi
    have hpos : 0 < (((putG b 1000000 xs many).drop (i * b)).take b).length := by omega
    have hm := List.getElem_mem hpos
    have h1 := hlow _ (List.mem_of_mem_drop (List.mem_of_mem_take hm))
    have := sum_ge_mem hm fun u hu => hlow u (List.mem_of_mem_drop (List.mem_of_mem_take hu))
    rw [hlen] at this
    omega
  have s2 : (1000000 : Int) - 792 ≤ (srt (grp b (putG b 1000000 xs many))).getD (mq / 2) 0 := low_cnt (by omega) (by omega)
  have s1 : -891 ≤ (srt (grp b (putG b 1000000 xs many))).getD ((mq - 1) / 2) 0 := by
    refine hall _ (mem_srt.mp ?_)
    rw [List.getD_eq_getElem?_getD, List.getElem?_eq_getElem (by simp only [srt_len]; omega)]
    exact List.getElem_mem _
  show 100000 * ((2 * b : Nat) : Int) < mid2 (grp b (putG b 1000000 xs many))
  unfold mid2
  rw [hgl]
  by_cases hodd : mq % 2 = 1
  · rw [show (mq - 1) / 2 = mq / 2 by omega]
    omega
  · have : b ≤ 4 := by
      have h2 : 2 * b ≤ mq * b := Nat.mul_le_mul_right b (by omega)
      omega
    omega
theorem find_int {m : Int} : ∀ ys : List Int, findD (.int m) (ys.map .int) = fstI m ys
  | [] => rfl
  | y :: r => by
    rw [List.map_cons]
    unfold findD fstI
    rw [find_int r]
    show (if (y == m) = true then _ else _) = _
    by_cases h : y = m
    · rw [if_pos (by simpa using h), if_pos h]
    · rw [if_neg (by simpa using h), if_neg h]
theorem mt_index_b {m : Int} {ys : List Int} {j : Nat} (h : fstI m ys = some j) : mtop "index" (.bor (ys.map .int)) [.val (.int m)] = some (.val (.int (j : Int))) := by
  have e : mtop "index" (.bor (ys.map .int)) [.val (.int m)] = if (flatD (.int m) && (ys.map PyData.int).all flatD) = true then (findD (.int m) (ys.map .int)).map (fun (j : Nat) => RV.val (.int (j : Int))) else none := by
    unfold mtop
    rw [if_pos rfl]
    rfl
  rw [e, find_int, h, if_pos]
  · rfl
  · simp [flatD]
/-- what is replaced, by any rule -/
def repl (r : Rl) (v : Int) (xs : List Int) : List Int := if isGr r = true then putG r.nb v xs (bear r xs.length + 1) else putM v xs (bear r xs.length + 1)
@[simp] theorem repl_len {r : Rl} {v : Int} {xs : List Int} : (repl r v xs).length = xs.length := by
  unfold repl
  split <;> simp
theorem repl_mem {r : Rl} {v : Int} {xs : List Int} {u : Int} (h : u ∈ repl r v xs) : u ∈ xs ∨ u = v := by
  unfold repl at h
  split at h
  · exact putG_mem h
  · exact putM_mem h
theorem repl_big {r : Rl} {v : Int} {xs : List Int} (hx : okX xs) (h0 : 0 ≤ v) (h1 : v ≤ 1000000) : ∀ u ∈ repl r v xs, -1000000 ≤ u ∧ u ≤ 1000000 := fun u hu => by
  rcases repl_mem hu with q | q
  · exact hx.big u q
  · omega
theorem repl_ok {r : Rl} {v : Int} {xs : List Int} (hr : r.ok xs.length) (hx : okX xs) (h0 : 0 ≤ v) (h1 : v ≤ 1000000) : okf (res r (repl r v xs)) := by
  have h2 := num_bds (r := r) (xs := repl r v xs) (by simpa using hr) (repl_big hx h0 h1)
  rw [repl_len] at h2
  have h3 := den_pos hr
  have h4 := den_le hr hx.b
  unfold res
  rw [repl_len]
  exact okf_low (by unfold sm; omega) (by omega) (by omega)
theorem bear_lt {r : Rl} {n : Nat} (hr : r.ok n) (h0 : 1 ≤ n) (h9 : n ≤ 9) : bear r n + 1 ≤ n := by
  cases r with
  | tr g => have : 2 * g < n := hr; show g + 1 ≤ n; omega
  | wi g => have : 2 * g < n := hr; show g + 1 ≤ n; omega
  | pa =>
    show pb n + 1 ≤ n
    have e : n = 1 ∨ n = 2 ∨ n = 3 ∨ n = 4 ∨ n = 5 ∨ n = 6 ∨ n = 7 ∨ n = 8 ∨ n = 9 := by omega
    rcases e with rfl | rfl | rfl | rfl | rfl | rfl | rfl | rfl | rfl <;> decide
  | gr b =>
    obtain ⟨b0, b1, b2⟩ := hr
    have := Nat.div_le_self n b
    show (n / b - 1) / 2 + 1 ≤ n
    omega
/-- with a million in the places: above each limit -/
theorem repl_great {r : Rl} {xs : List Int} (hr : r.ok xs.length) (hx : okX xs) : 100000 * (den r xs.length : Int) < num r (repl r 1000000 xs) := by
  unfold repl
  cases hg : isGr r with
  | true =>
    cases r with
    | gr b => exact great_gr hr hx.b fun u hu => (hx.c u hu).1
    | _ => cases hg
  | false =>
    rw [if_neg (by simp)]
    have hb := bear_lt hr hx.a hx.b
    have h := great_plain (r := r) (ys := putM 1000000 xs (bear r xs.length + 1)) hg (by simpa using hr) (by simpa using hx.b) (fun u hu => by
      rcases putM_mem hu with q | q
      · exact (hx.c u q).1
      · omega) (by
      have h1 := putM_cnt (v := 1000000) (by omega) (fun u hu => (hx.c u hu).2) hb
      have h2 := cnt_split (L := 1000000) (putM 1000000 xs (bear r xs.length + 1))
      have h3 : cntA 99 (putM 1000000 xs (bear r xs.length + 1)) ≤ (putM 1000000 xs (bear r xs.length + 1)).countP (fun v => decide (1000000 ≤ v)) := by
        refine List.countP_mono_left fun u hu q => ?_
        simp only [decide_eq_true_eq] at *
        rcases putM_mem hu with z | z
        · have := (hx.c u z).2; omega
        · omega
      rw [putM_len] at h2 ⊢
      omega)
    rw [putM_len] at h
    exact h
/-! ### a search among a few powers -/
def fst4 (f : Nat → Bool) : Nat := if f 0 then 0 else if f 1 then 1 else if f 2 then 2 else 3
theorem fst4_le (f : Nat → Bool) : fst4 f ≤ 3 := by unfold fst4; cases f 0 <;> cases f 1 <;> cases f 2 <;> simp
theorem whl_pow {C : Sl → Wd → R Bool} {F : Sl → Wd → R Out} {mk : Nat → Sl} {f : Nat → Bool} {w : Wd} (hC : ∀ i, i ≤ 3 → C (mk i) w = .ok (!f i) w) (hF : ∀ i, i < 3 → F (mk i) w = .ok (.nxt (mk (i + 1))) w) (h3 : f 3 = true) (m : Nat) : whlL C F (m + 4) (mk 0) w = .ok (.nxt (mk (fst4 f))) w := by
  have go : ∀ i k, i < 3 → f i = false → whlL C F (k + 1) (mk i) w = whlL C F k (mk (i + 1)) w := fun i k hi hf => by
    show (C (mk i) w).bind _ = _
    rw [hC i (by omega), hf]
    show (F (mk i) w).bind _ = _
    rw [hF i hi]
    rfl
  have st : ∀ i k, i ≤ 3 → f i = true → whlL C F (k + 1) (mk i) w = .ok (.nxt (mk i)) w := fun i k hi hf => by
    show (C (mk i) w).bind _ = _
    rw [hC i hi, hf]
    rfl
  unfold fst4
  cases h0 : f 0 with
  | true => rw [if_pos rfl]; exact st 0 (m + 3) (by omega) h0
  | false =>
    rw [if_neg (by simp), go 0 (m + 3) (by omega) h0]
    cases h1 : f 1 with
    | true => rw [if_pos rfl]; exact st 1 (m + 2) (by omega) h1
    | false =>
      rw [if_neg (by simp), go 1 (m + 2) (by omega) h1]
      cases h2 : f 2 with
      | true => rw [if_pos rfl]; exact st 2 (m + 1) (by omega) h2
      | false =>
        rw [if_neg (by simp), go 2 (m + 1) (by omega) h2]
        exact st 3 m (by omega) h3
theorem whl_pow4 {C : Sl → Wd → R Bool} {F : Sl → Wd → R Out} {mk : Nat → Sl} {f : Nat → Bool} {w : Wd} (hC : ∀ i, i ≤ 3 → C (mk i) w = .ok (!f i) w) (hF : ∀ i, i < 3 → F (mk i) w = .ok (.nxt (mk (i + 1))) w) (h3 : f 3 = true) (m : Nat) (hm : 4 ≤ m) : whlL C F m (mk 0) w = .ok (.nxt (mk (fst4 f))) w := by
  obtain ⟨k, rfl⟩ := Nat.exists_eq_add_of_le hm
  rw [Nat.add_comm]
  exact whl_pow hC hF h3 k
theorem aug_mul {i j : Int} (h : mulOk i j = true) : augop .Mult (.val (.int i)) (.val (.int j)) = some (.val (.int (i * j))) := if_pos h
def pw (i : Nat) : Int := 1000 * 10 ^ i
theorem pw_succ (i : Nat) : pw i * 10 = pw (i + 1) := by unfold pw; rw [Int.pow_succ, Int.mul_assoc]
theorem pw_bd {i : Nat} (h : i ≤ 3) : 1000 ≤ pw i ∧ pw i ≤ 1000000 := by
  have e : i = 0 ∨ i = 1 ∨ i = 2 ∨ i = 3 := by omega
  rcases e with rfl | rfl | rfl | rfl <;> decide
/-! ### comprehensions that draw -/
inductive Rel2 (Rr : Nat → Int → Prop) : List Nat → List Int → Prop
  | nil : Rel2 Rr [] []
  | cons {k : Nat} {v : Int} {ks : List Nat} {vs : List Int} : Rr k v → Rel2 Rr ks vs → Rel2 Rr (k :: ks) (v :: vs)
theorem Rel2.len {Rr : Nat → Int → Prop} {ks : List Nat} {vs : List Int} (h : Rel2 Rr ks vs) : vs.length = ks.length := by
  induction h with
  | nil => rfl
  | cons _ _ ih => simp [ih]
theorem Rel2.cnt {Rr : Nat → Int → Prop} {p : Nat → Bool} {q : Int → Bool} (hpq : ∀ k v, Rr k v → q v = true → p k = true) {ks : List Nat} {vs : List Int} (h : Rel2 Rr ks vs) : vs.countP q ≤ ks.countP p := by
  induction h with
  | nil => simp
  | @cons k v ks vs hr _ ih =>
    rw [List.countP_cons, List.countP_cons]
    cases hq : q v with
    | true => rw [hpq k v hr hq]; simpa using ih
    | false => simp; omega
theorem Rel2.all {Rr : Nat → Int → Prop} {Q : Int → Prop} (hq : ∀ k v, Rr k v → Q v) {ks : List Nat} {vs : List Int} (h : Rel2 Rr ks vs) : ∀ v ∈ vs, Q v := by
  induction h with
  | nil => intro v hv; cases hv
  | cons hr _ ih =>
    intro v hv
    rcases List.mem_cons.mp hv with rfl | hv
    · exact hq _ _ hr
    · exact ih v hv
theorem compL_rel {f : D → Wd → R (Option D)} {Rr : Nat → Int → Prop} : ∀ (ks : List Nat) (o : Orc), OkO o → (∀ k ∈ ks, ∀ o, OkO o → ∃ v o', f (.int (k : Int)) (Wo o) = .ok (some (.int v)) (Wo o') ∧ Rr k v ∧ OkO o') → ∃ (vs : List Int) (o' : Orc), compL f (ks.map fun (k : Nat) => .int (k : Int)) (Wo o) = .ok (vs.map .int) (Wo o') ∧ Rel2 Rr ks vs ∧ OkO o'
  | [], o, ho, _ => ⟨[], o, rfl, .nil, ho⟩
  | k :: ks, o, ho, hf => by
    obtain ⟨v, o1, e1, r1, ho1⟩ := hf k List.mem_cons_self o ho
    obtain ⟨vs, o2, e2, r2, ho2⟩ := compL_rel ks o1 ho1 fun j hj => hf j (List.mem_cons_of_mem _ hj)
    refine ⟨v :: vs, o2, ?_, .cons r1 r2, ho2⟩
    show (f (.int (k : Int)) (Wo o)).bind _ = _
    rw [e1]
    show (compL f _ (Wo o1)).bind _ = _
    rw [e2]
    rfl
/-- few places -/
theorem few_places (ps : List Int) : ∀ n : Nat, (List.range n).countP (fun (k : Nat) => decide ((k : Int) ∈ ps)) ≤ ps.length := by
  intro n
  induction ps with
  | nil => simp
  | cons p ps ih =>
    have h1 : (List.range n).countP (fun (k : Nat) => decide ((k : Int) ∈ p :: ps)) ≤ (List.range n).countP (fun (k : Nat) => decide ((k : Int) = p)) + (List.range n).countP (fun (k : Nat) => decide ((k : Int) ∈ ps)) := by
      generalize List.range n = l
      induction l with
      | nil => simp
      | cons k l ih2 =>
        simp only [List.countP_cons]
        by_cases a : (k : Int) = p
        · by_cases b : (k : Int) ∈ ps <;> simp [a, b] <;> simp at ih2 <;> omega
        · by_cases b : (k : Int) ∈ ps <;> simp [a, b] <;> simp at ih2 <;> omega
    have h2 : (List.range n).countP (fun (k : Nat) => decide ((k : Int) = p)) ≤ 1 := by
      have : (List.range n).countP (fun (k : Nat) => decide ((k : Int) = p)) ≤ (List.range n).countP (fun (k : Nat) => decide (k = p.toNat)) := by
        refine List.countP_mono_left fun k _ hk => ?_
        simp only [decide_eq_true_eq] at *
        omega
      refine Nat.le_trans this ?_
      have e : (List.range n).countP (fun (k : Nat) => decide (k = p.toNat)) = (List.range n).count p.toNat := by
        unfold List.count
        apply List.countP_congr
        intro k _
        simp
      rw [e]
      exact List.nodup_iff_count.mp List.nodup_range _
    simp only [List.length_cons]
    omega
/-! ### x.remove(..) -/
def remC (i : Nat) (ds : List D) (s : Sl) (y : RV) (w : Wd) : R Sl := match frz y with
      | some d => (match mutop "remove" ds d with
        | some ds' => .ok (s.set i (some (.own ds'))) w
        | none => .bad)
      | none => .bad
@[simp] theorem exprW_remove {G : Cn} {F : Sl → EvF} {x : Str} {a : Expr} {p q r : Pos} {s : Sl} {w : Wd} : exprW G F (.Call (.Attribute (.Name x p) "remove" q) [a] [] r) s w = match idx G.N x with
  | some i => (match s[i]? with
    | some (some (.own ds)) => (F s a w).bind (remC i ds s)
    | _ => .bad)
  | none => .bad := by
  unfold exprW isMut
  simp only [or_true, if_true]
  rfl
theorem map_ers {f : Int → D} : ∀ (xs : List Int) (j : Nat), (xs.map f).eraseIdx j = (xs.eraseIdx j).map f
  | [], _ => rfl
  | x :: r, 0 => rfl
  | x :: r, j + 1 => by
    show f x :: (r.map f).eraseIdx j = _
    rw [map_ers r j]
    rfl
theorem remC_int {i : Nat} {xs : List Int} {v : Int} {j : Nat} {s : Sl} {w : Wd} (h : fstI v xs = some j) : remC i (xs.map .int) s (.val (.int v)) w = .ok (s.set i (some (.own ((xs.eraseIdx j).map .int)))) w := by
  have e : mutop "remove" (xs.map PyData.int) (.int v) = some ((xs.eraseIdx j).map .int) := by
    unfold mutop
    rw [if_neg (by decide +kernel), if_pos rfl, asInts_map, find_int, h]
    show some ((xs.map PyData.int).eraseIdx j) = _
    rw [map_ers]
  unfold remC
  simp only [frz, e]
/-! ### replaced one by one; another great value -/
def rep1 (r : Rl) (v : Int) (xs : List Int) (k : Nat) : List Int := if isGr r = true then putG r.nb v xs k else putM v xs k
theorem repl_eq {r : Rl} {v : Int} {xs : List Int} : repl r v xs = rep1 r v xs (bear r xs.length + 1) := rfl
@[simp] theorem rep1_len {r : Rl} {v : Int} {xs : List Int} {k : Nat} : (rep1 r v xs k).length = xs.length := by
  unfold rep1
  split <;> simp
theorem putG_swp {b : Nat} {u v : Int} {xs : List Int} (hu : 99 < u) (hx : ∀ w ∈ xs, w ≤ 99) : ∀ {k : Nat}, (putG b u xs k).map (swp u v) = putG b v xs k
  | 0 => by
    show xs.map (swp u v) = xs
    refine map_id_of fun w hw => ?_
    have := hx w hw
    unfold swp
    rw [if_neg (by omega)]
  | k + 1 => by
    show ((putG b u xs k).set (k * b) u).map (swp u v) = (putG b v xs k).set (k * b) v
    rw [List.map_set, putG_swp hu hx]
    congr 1
    unfold swp
    rw [if_pos rfl]
theorem repl_swp {r : Rl} {u v : Int} {xs : List Int} (hr : r.ok xs.length) (hx : okX xs) (hu : 99 < u) (hv : 99 < v) : (repl r u xs).map (swp u v) = repl r v xs := by
  have hb := bear_lt hr hx.a hx.b
  unfold repl
  split
  · exact putG_swp hu fun w hw => (hx.c w hw).2
  · exact putM_swp hu hv (fun w hw => (hx.c w hw).2) hb
theorem repl_ne {r : Rl} {xs : List Int} (hr : r.ok xs.length) (hx : okX xs) : repl r 1000000 xs ≠ xs := fun z => by
  have h1 := repl_great hr hx
  rw [z] at h1
  have h2 := (num_bds hr hx.c).2
  have h3 := den_pos hr
  omega
end TM

namespace TM
/-! ### extremes: values at some places raised -/
def raiz (h : Int) (P : List Nat) (xs : List Int) : List Int := (List.range xs.length).map fun k => if k ∈ P then max h (xs.getD k 0) else xs.getD k 0
@[simp] theorem raiz_len (h : Int) (P : List Nat) (xs : List Int) : (raiz h P xs).length = xs.length := by simp [raiz]
structure IsSet (n m : Nat) (P : List Nat) : Prop where
  p : P.Pairwise (· < ·)
  b : ∀ k ∈ P, k < n
  l : P.length ≤ m
theorem IsSet.mono {n m m' : Nat} {P : List Nat} (h : IsSet n m P) (hm : m ≤ m') : IsSet n m' P := ⟨h.p, h.b, Nat.le_trans h.l hm⟩
theorem IsSet.nil {n m : Nat} : IsSet n m [] := ⟨.nil, by simp, by simp⟩
theorem map_get (xs : List Int) : ((List.range xs.length).map fun k => xs.getD k 0) = xs := by
  apply List.ext_getElem (by simp)
  intro i h1 h2
  simp [List.getD_eq_getElem?_getD, h2]
theorem raiz_nil {h : Int} {xs : List Int} : raiz h [] xs = xs := by
  unfold raiz
  simp only [List.not_mem_nil, if_false]
  exact map_get xs
theorem raiz_get {h : Int} {P : List Nat} {xs : List Int} {k : Nat} (hk : k < xs.length) : (raiz h P xs).getD k 0 = if k ∈ P then max h (xs.getD k 0) else xs.getD k 0 := by
  simp [raiz, List.getD_eq_getElem?_getD, hk]
theorem raiz_dom {h : Int} {P : List Nat} {xs : List Int} : Dom xs (raiz h P xs) := by
  refine Dom.of_get (by simp) fun i hi => ?_
  rw [raiz_get hi]
  split <;> omega
theorem mem_raiz {h v : Int} {P : List Nat} {xs : List Int} (hv : v ∈ raiz h P xs) : v ∈ xs ∨ v = h := by
  obtain ⟨k, hk, rfl⟩ := List.mem_map.mp hv
  have hk := List.mem_range.mp hk
  have hm : xs.getD k 0 ∈ xs := by rw [List.getD_eq_getElem?_getD, List.getElem?_eq_getElem hk]; exact List.getElem_mem hk
  split
  · rcases Int.le_total h (xs.getD k 0) with q | q
    · left; rw [show max h (xs.getD k 0) = xs.getD k 0 by omega]; exact hm
    · right; omega
  · exact .inl hm
/-! ### counted -/
theorem cnt_drop {t : Int} : ∀ (l : List Int) (m : Nat), Srt l → cntB t (l.drop m) ≤ cntB t l - m
  | [], m, _ => by simp [cntB]
  | x :: r, 0, _ => by simp
  | x :: r, m + 1, h => by
    have hr := (List.pairwise_cons.mp h)
    have ih := cnt_drop r m hr.2 (t := t)
    rw [List.drop_succ_cons]
    by_cases q : x < t
    · have : cntB t (x :: r) = cntB t r + 1 := by simp [cntB, q]
      omega
    · have e : cntB t (r.drop m) = 0 := by
        unfold cntB
        rw [List.countP_eq_zero]
        intro v hv
        have := hr.1 v (List.mem_of_mem_drop hv)
        simp; omega
      omega
theorem cnt_srt {xs : List Int} {i : Nat} (hi : i < xs.length) : cntB ((srt xs).getD i 0) xs ≤ i := by
  rw [← cntB_perm (srt_prm xs)]
  have h := cnt_drop (t := (srt xs).getD i 0) (srt xs) i (srt_srt xs)
  have h0 : cntB ((srt xs).getD i 0) ((srt xs).drop i) = 0 := by
    unfold cntB
    rw [List.countP_eq_zero]
    intro v hv
    obtain ⟨j, hj, hij, e⟩ := mem_drop_getD hv
    have := srt_get (srt_srt xs) hij hj
    simp only [decide_eq_true_eq]; omega
  have h1 : cntB ((srt xs).getD i 0) (srt xs) = cntB ((srt xs).getD i 0) ((srt xs).take i) + cntB ((srt xs).getD i 0) ((srt xs).drop i) := by
    unfold cntB
    rw [← List.countP_append, List.take_append_drop]
  have h2 : cntB ((srt xs).getD i 0) ((srt xs).take i) ≤ i := by
    unfold cntB
    refine Nat.le_trans List.countP_le_length ?_
    simp; omega
  omega
theorem dom_of_cnt {xs ys : List Int} (hl : xs.length = ys.length) (h : ∀ t, cntB t ys ≤ cntB t xs) : Dom (srt xs) (srt ys) := by
  refine Dom.of_get (by simp [hl]) fun i hi => ?_
  have hi : i < xs.length := by simpa using hi
  exact low_cnt (by omega) (Nat.le_trans (h _) (cnt_srt hi))
theorem num_of_srt {r : Rl} {xs ys : List Int} (hg : isGr r = false) (h : Dom (srt xs) (srt ys)) : num r xs ≤ num r ys := by
  rw [← num_perm hg (srt_prm xs), ← num_perm hg (srt_prm ys)]
  exact num_mono r h
theorem few_nat (P : List Nat) (n : Nat) : (List.range n).countP (fun k => decide (k ∈ P)) ≤ P.length := by
  induction P with
  | nil => simp
  | cons p ps ih =>
    have h1 : ∀ l : List Nat, l.countP (fun k => decide (k ∈ p :: ps)) ≤ l.countP (fun k => k == p) + l.countP (fun k => decide (k ∈ ps)) := by
      intro l
      induction l with
      | nil => simp
      | cons k l ih2 =>
        simp only [List.countP_cons]
        by_cases a : k = p
        · by_cases b : k ∈ ps <;> simp [a, b] <;> simp at ih2 <;> omega
        · by_cases b : k ∈ ps <;> simp [a, b] <;> simp at ih2 <;> omega
    have h2 : (List.range n).countP (fun k => k == p) ≤ 1 := List.nodup_iff_count.mp List.nodup_range p
    have := h1 (List.range n)
    simp only [List.length_cons]
    omega
theorem cntP_split {α : Type} (p q : α → Bool) (l : List α) : l.countP p ≤ l.countP (fun a => p a && !q a) + l.countP q := by
  induction l with
  | nil => simp
  | cons a r ih =>
    simp only [List.countP_cons]
    cases p a <;> cases q a <;> simp <;> omega
theorem cnt_rng {p : Int → Bool} (xs : List Int) : xs.countP p = (List.range xs.length).countP fun k => p (xs.getD k 0) := by
  conv => lhs; rw [← map_get xs, List.countP_map]
  rfl
/-- at any places: at most so many fewer -/
theorem cnt_raiz_ge {t h : Int} {P : List Nat} {xs : List Int} : cntB t xs ≤ cntB t (raiz h P xs) + P.length := by
  unfold cntB raiz
  rw [List.countP_map, cnt_rng xs]
  have h1 := cntP_split (fun k => decide (xs.getD k 0 < t)) (fun k => decide (k ∈ P)) (List.range xs.length)
  have h2 := few_nat P xs.length
  have h3 : (List.range xs.length).countP (fun k => decide (xs.getD k 0 < t) && !decide (k ∈ P)) ≤ (List.range xs.length).countP ((fun v => decide (v < t)) ∘ fun k => if k ∈ P then max h (xs.getD k 0) else xs.getD k 0) := by
    apply List.countP_mono_left
    intro k _ hk
    simp at hk ⊢
    rw [if_neg hk.2]
    exact hk.1
  omega
theorem cntA_raiz {t h : Int} {P : List Nat} {xs : List Int} : cntA t (raiz h P xs) ≤ cntA t xs + P.length := by
  unfold cntA raiz
  rw [List.countP_map, cnt_rng xs]
  have h1 := cntP_split ((fun v => decide (t < v)) ∘ fun k => if k ∈ P then max h (xs.getD k 0) else xs.getD k 0) (fun k => decide (k ∈ P)) (List.range xs.length)
  have h2 := few_nat P xs.length
  have h3 : (List.range xs.length).countP (fun k => ((fun v => decide (t < v)) ∘ fun k => if k ∈ P then max h (xs.getD k 0) else xs.getD k 0) k && !decide (k ∈ P)) ≤ (List.range xs.length).countP (fun k => decide (t < xs.getD k 0)) := by
    apply List.countP_mono_left
    intro k _ hk
    simp at hk ⊢
    rw [if_neg hk.2] at hk
    exact hk.1
  omega
/-! ### the least places -/
def leastQ (m : Nat) (xs : List Int) : List (Int × Int) := (srtP (prL xs)).take m
def leastI (m : Nat) (xs : List Int) : List Int := srt ((leastQ m xs).map Prod.snd)
def leastP (m : Nat) (xs : List Int) : List Nat := (leastI m xs).map Int.toNat
theorem mem_leastI {m : Nat} {xs : List Int} {v : Int} (h : v ∈ leastI m xs) : 0 ≤ v ∧ v < xs.length := by
  obtain ⟨p, hp, rfl⟩ := List.mem_map.mp (mem_srt.mp h)
  obtain ⟨k, hk, rfl⟩ := mem_prL ((srtP_prm _).mem_iff.mp (List.mem_of_mem_take hp))
  simp only; omega
theorem leastI_nodup (m : Nat) (xs : List Int) : (leastI m xs).Nodup := by
  unfold leastI
  rw [(srt_prm _).nodup_iff]
  unfold leastQ
  rw [List.map_take]
  refine List.Nodup.sublist (List.take_sublist _ _) ?_
  rw [((srtP_prm _).map _).nodup_iff]
  unfold prL
  rw [List.map_map]
  exact List.Pairwise.map _ (fun a b (h : a ≠ b) => show ((a : Int) : Int) ≠ (b : Int) by omega) List.nodup_range
theorem leastP_set {m : Nat} {xs : List Int} : IsSet xs.length m (leastP m xs) := by
  refine ⟨?_, ?_, ?_⟩
  · unfold leastP
    rw [List.pairwise_map]
    have h1 : (leastI m xs).Pairwise (· ≤ ·) := srt_srt _
    have h2 : (leastI m xs).Pairwise (· ≠ ·) := leastI_nodup m xs
    refine ((h1.and h2).imp_of_mem ?_)
    intro a b ha hb hab
    have := mem_leastI ha
    have := mem_leastI hb
    omega
  · intro k hk
    obtain ⟨v, hv, rfl⟩ := List.mem_map.mp hk
    have := mem_leastI hv
    omega
  · unfold leastP leastI leastQ
    simp
    omega
theorem mem_leastP {m : Nat} {xs : List Int} {k : Nat} : k ∈ leastP m xs ↔ (k : Int) ∈ leastI m xs := by
  unfold leastP
  constructor
  · intro h
    obtain ⟨v, hv, rfl⟩ := List.mem_map.mp h
    have := mem_leastI hv
    rwa [Int.toNat_of_nonneg this.1]
  · intro h
    exact List.mem_map.mpr ⟨k, h, by simp⟩
theorem cnt_least {t h : Int} {m : Nat} {xs : List Int} (ht : t ≤ h) : cntB t (raiz h (leastP m xs) xs) ≤ cntB t xs - m := by
  have e1 : raiz h (leastP m xs) xs = (prL xs).map fun p => if p.2 ∈ leastI m xs then max h p.1 else p.1 := by
    unfold raiz prL
    rw [List.map_map]
    apply List.map_congr_left
    intro k _
    simp only [Function.comp, mem_leastP]
  have e2 : cntB t (raiz h (leastP m xs) xs) = (srtP (prL xs)).countP fun p => decide ((if p.2 ∈ leastI m xs then max h p.1 else p.1) < t) := by
    rw [e1]
    unfold cntB
    rw [List.countP_map, (srtP_prm (prL xs)).countP_eq]
    rfl
  rw [e2]
  conv => lhs; rw [← List.take_append_drop m (srtP (prL xs)), List.countP_append]
  have h1 : ((srtP (prL xs)).take m).countP (fun p => decide ((if p.2 ∈ leastI m xs then max h p.1 else p.1) < t)) = 0 := by
    rw [List.countP_eq_zero]
    intro p hp
    have : p.2 ∈ leastI m xs := mem_srt.mpr (List.mem_map.mpr ⟨p, hp, rfl⟩)
    rw [if_pos this]
    simp; omega
  have h2 : ((srtP (prL xs)).drop m).countP (fun p => decide ((if p.2 ∈ leastI m xs then max h p.1 else p.1) < t)) ≤ cntB t ((srt xs).drop m) := by
    rw [show (srt xs).drop m = ((srtP (prL xs)).drop m).map Prod.fst by rw [List.map_drop, srtP_fst, prL_fst]]
    unfold cntB
    rw [List.countP_map]
    apply List.countP_mono_left
    intro p _ hp
    simp at hp ⊢
    split at hp <;> omega
  have h3 := cnt_drop (t := t) (srt xs) m (srt_srt xs)
  rw [cntB_perm (srt_prm xs)] at h3
  omega
theorem cnt_above {t h : Int} {P : List Nat} {xs : List Int} (ht : h < t) : cntB t (raiz h P xs) = cntB t xs := by
  unfold cntB raiz
  rw [List.countP_map, cnt_rng xs]
  congr 1
  funext k
  simp
  split <;> omega
theorem best_plain {r : Rl} {h : Int} {m : Nat} {xs : List Int} {P : List Nat} (hg : isGr r = false) (hP : IsSet xs.length m P) : num r (raiz h P xs) ≤ num r (raiz h (leastP m xs) xs) := by
  apply num_of_srt hg
  apply dom_of_cnt (by simp)
  intro t
  rcases Int.lt_or_le h t with q | q
  · rw [cnt_above q, cnt_above q]; exact Nat.le_refl _
  · have h1 := cnt_least (m := m) (xs := xs) q
    have h2 := cnt_raiz_ge (t := t) (h := h) (P := P) (xs := xs)
    have := hP.l
    omega
/-! ### sets -/
theorem set_snoc {n t : Nat} {P : List Nat} (h : P.Pairwise (· < ·)) (hb : ∀ k ∈ P, k < n) (hl : P.length = t + 1) : ∃ Q k, P = Q ++ [k] ∧ Q.Pairwise (· < ·) ∧ (∀ j ∈ Q, j < k) ∧ k < n ∧ Q.length = t := by
  rcases List.eq_nil_or_concat P with e | ⟨Q, k, e⟩
  · subst e; simp at hl
  · rw [List.concat_eq_append] at e
    subst e
    rw [List.pairwise_append] at h
    refine ⟨Q, k, rfl, h.1, fun j hj => h.2.2 j hj k (by simp), hb k (by simp), by simpa using hl⟩
theorem pair_snoc {Q : List Nat} {k : Nat} (h : Q.Pairwise (· < ·)) (hk : ∀ j ∈ Q, j < k) : (Q ++ [k]).Pairwise (· < ·) := by
  rw [List.pairwise_append]
  exact ⟨h, by simp, fun a ha b hb => by simp at hb; subst hb; exact hk a ha⟩
/-- the law's sets -/
def lsets (m : Nat) : Nat → List (List Nat)
  | 0 => [[]]
  | k + 1 => lsets m k ++ ((lsets m k).filter fun P => decide (P.length < m)).map fun P => P ++ [k]
theorem mem_lsets {m : Nat} {P : List Nat} : ∀ {k : Nat}, P ∈ lsets m k ↔ IsSet k m P
  | 0 => by
    constructor
    · intro h
      simp [lsets] at h
      subst h; exact .nil
    · intro h
      cases P with
      | nil => simp [lsets]
      | cons a r => exact absurd (h.b a (by simp)) (by omega)
  | k + 1 => by
    rw [lsets, List.mem_append, mem_lsets]
    constructor
    · rintro (h | h)
      · exact ⟨h.p, fun j hj => by have := h.b j hj; omega, h.l⟩
      · obtain ⟨Q, hQ, rfl⟩ := List.mem_map.mp h
        obtain ⟨h1, h2⟩ := List.mem_filter.mp hQ
        have h1 := mem_lsets.mp h1
        have h2 : Q.length < m := by simpa using h2
        refine ⟨pair_snoc h1.p h1.b, ?_, by simp; omega⟩
        intro j hj
        rcases List.mem_append.mp hj with q | q
        · have := h1.b j q; omega
        · simp at q; omega
    · intro h
      by_cases q : ∀ j ∈ P, j < k
      · exact .inl ⟨h.p, q, h.l⟩
      · right
        have hne : P.length ≠ 0 := fun z => q (by have := List.eq_nil_of_length_eq_zero z; subst this; simp)
        obtain ⟨Q, j, rfl, h1, h2, h3, h4⟩ := set_snoc (t := P.length - 1) h.p h.b (by omega)
        have hj : j = k := by
          rcases Nat.lt_or_ge j k with z | z
          · refine absurd ?_ q
            intro i hi
            rcases List.mem_append.mp hi with y | y
            · have := h2 i y; omega
            · simp at y; omega
          · omega
        subst hj
        have hl := h.l
        simp at hl
        exact List.mem_map.mpr ⟨Q, List.mem_filter.mpr ⟨mem_lsets.mpr ⟨h1, h2, by omega⟩, by simp; omega⟩, rfl⟩
/-- the program's sets -/
def nxt (n : Nat) (P : List Nat) : List (List Nat) := (List.range' (match P.getLast? with | some k => k + 1 | none => 0) (n - (match P.getLast? with | some k => k + 1 | none => 0))).map fun k => P ++ [k]
def lastS (n : Nat) : Nat → List (List Nat)
  | 0 => [[]]
  | t + 1 => (lastS n t).flatMap (nxt n)
def subs (n : Nat) : Nat → List (List Nat)
  | 0 => [[]]
  | m + 1 => subs n m ++ lastS n (m + 1)
theorem asc_last {Q : List Nat} (h : Q.Pairwise (· < ·)) {k : Nat} : (∀ j ∈ Q, j < k) ↔ (match Q.getLast? with | some k => k + 1 | none => 0) ≤ k := by
  rcases List.eq_nil_or_concat Q with e | ⟨R, j, e⟩
  · subst e; simp
  · rw [List.concat_eq_append] at e
    subst e
    rw [List.pairwise_append] at h
    simp only [List.getLast?_append, List.getLast?_singleton, Option.some_or]
    constructor
    · intro q; have := q j (by simp); omega
    · intro q i hi
      rcases List.mem_append.mp hi with y | y
      · have := h.2.2 i y j (by simp); omega
      · simp at y; omega
theorem mem_nxt {n : Nat} {P Q : List Nat} : Q ∈ nxt n P ↔ ∃ k, Q = P ++ [k] ∧ (match P.getLast? with | some k => k + 1 | none => 0) ≤ k ∧ k < n := by
  unfold nxt
  generalize (match P.getLast? with | some k => k + 1 | none => 0) = a
  simp only [List.mem_map, List.mem_range'_1]
  constructor
  · rintro ⟨k, h, rfl⟩; exact ⟨k, rfl, by omega, by omega⟩
  · rintro ⟨k, rfl, h1, h2⟩; exact ⟨k, by omega, rfl⟩
theorem mem_lastS {n : Nat} : ∀ {t : Nat} {P : List Nat}, P ∈ lastS n t ↔ P.Pairwise (· < ·) ∧ (∀ k ∈ P, k < n) ∧ P.length = t
  | 0, P => by
    constructor
    · intro h
      simp [lastS] at h
      subst h; simp
    · intro h
      have := List.eq_nil_of_length_eq_zero h.2.2
      subst this; simp [lastS]
  | t + 1, P => by
    rw [lastS, List.mem_flatMap]
    constructor
    · rintro ⟨Q, hQ, h⟩
      obtain ⟨h1, h2, h3⟩ := mem_lastS.mp hQ
      obtain ⟨k, rfl, h4, h5⟩ := mem_nxt.mp h
      refine ⟨pair_snoc h1 ((asc_last h1).mpr h4), ?_, by simp [h3]⟩
      intro j hj
      rcases List.mem_append.mp hj with q | q
      · exact h2 j q
      · simp at q; omega
    · rintro ⟨h1, h2, h3⟩
      obtain ⟨Q, k, rfl, h4, h5, h6, h7⟩ := set_snoc h1 h2 h3
      exact ⟨Q, mem_lastS.mpr ⟨h4, fun j hj => by have := h5 j hj; omega, h7⟩, mem_nxt.mpr ⟨k, rfl, (asc_last h4).mp h5, h6⟩⟩
theorem mem_subs {n : Nat} {P : List Nat} : ∀ {m : Nat}, P ∈ subs n m ↔ IsSet n m P
  | 0 => by
    constructor
    · intro h; simp [subs] at h; subst h; exact .nil
    · intro h
      have := List.eq_nil_of_length_eq_zero (Nat.le_zero.mp h.l)
      subst this; simp [subs]
  | m + 1 => by
    rw [subs, List.mem_append, mem_subs, mem_lastS]
    constructor
    · rintro (h | h)
      · exact h.mono (by omega)
      · exact ⟨h.1, h.2.1, by omega⟩
    · intro h
      by_cases q : P.length ≤ m
      · exact .inl ⟨h.p, h.b, q⟩
      · have := h.l
        exact .inr ⟨h.p, h.b, by omega⟩
/-! ### the greatest -/
def stepB (f : List Nat → Int) (b P : List Nat) : List Nat := if f b < f P then P else b
def bestS (f : List Nat → Int) (Ps : List (List Nat)) : List Nat := Ps.foldl (stepB f) []
theorem foldB {f : List Nat → Int} : ∀ (Ps : List (List Nat)) (b : List Nat), (Ps.foldl (stepB f) b = b ∨ Ps.foldl (stepB f) b ∈ Ps) ∧ f b ≤ f (Ps.foldl (stepB f) b) ∧ ∀ P ∈ Ps, f P ≤ f (Ps.foldl (stepB f) b)
  | [], b => by simp
  | P :: r, b => by
    obtain ⟨h1, h2, h3⟩ := foldB (f := f) r (stepB f b P)
    rw [List.foldl_cons]
    have q : f b ≤ f (stepB f b P) ∧ f P ≤ f (stepB f b P) ∧ (stepB f b P = b ∨ stepB f b P = P) := by
      unfold stepB
      split
      · exact ⟨by omega, by omega, .inr rfl⟩
      · exact ⟨by omega, by omega, .inl rfl⟩
    refine ⟨?_, by omega, ?_⟩
    · rcases h1 with h1 | h1
      · rw [h1]
        rcases q.2.2 with z | z <;> rw [z] <;> simp
      · right; exact List.mem_cons_of_mem _ h1
    · intro Q hQ
      rcases List.mem_cons.mp hQ with z | z
      · subst z; omega
      · exact h3 Q z
def bestP (r : Rl) (m : Nat) (h : Int) (xs : List Int) : List Nat := if isGr r = true then bestS (fun P => num r (raiz h P xs)) (subs xs.length m) else leastP m xs
theorem bestP_set {r : Rl} {m : Nat} {h : Int} {xs : List Int} : IsSet xs.length m (bestP r m h xs) := by
  unfold bestP
  split
  · rcases (foldB (f := fun P => num r (raiz h P xs)) (subs xs.length m) []).1 with e | e
    · unfold bestS; rw [e]; exact .nil
    · exact mem_subs.mp e
  · exact leastP_set
def gv (r : Rl) (m : Nat) (h : Int) (xs : List Int) : Int := num r (raiz h (bestP r m h xs) xs)
theorem gv_ge {r : Rl} {m : Nat} {h : Int} {xs : List Int} {P : List Nat} (hP : IsSet xs.length m P) : num r (raiz h P xs) ≤ gv r m h xs := by
  unfold gv bestP
  split
  · exact (foldB (f := fun P => num r (raiz h P xs)) (subs xs.length m) []).2.2 P (mem_subs.mpr hP)
  · rename_i q
    exact best_plain (by simpa using q) hP
theorem gv_mono {r : Rl} {m m' : Nat} {h : Int} {xs : List Int} (hm : m ≤ m') : gv r m h xs ≤ gv r m' h xs := gv_ge (bestP_set.mono hm)
theorem gv_base {r : Rl} {m : Nat} {h : Int} {xs : List Int} : num r xs ≤ gv r m h xs := by
  have := gv_ge (r := r) (m := m) (h := h) (xs := xs) .nil
  rwa [raiz_nil] at this
theorem gv_zero {r : Rl} {h : Int} {xs : List Int} : gv r 0 h xs = num r xs := by
  have h1 := bestP_set (r := r) (m := 0) (h := h) (xs := xs)
  unfold gv
  rw [List.eq_nil_of_length_eq_zero (Nat.le_zero.mp h1.l), raiz_nil]
theorem dom_of_le {h : Int} : ∀ {xs : List Int}, (∀ v ∈ xs, v ≤ h) → Dom xs (List.replicate xs.length h)
  | [], _ => .nil
  | x :: r, q => .cons (q x (by simp)) (dom_of_le fun v hv => q v (List.mem_cons_of_mem _ hv))
theorem gv_full {r : Rl} {h : Int} {xs : List Int} (hr : r.ok xs.length) (hx : ∀ v ∈ xs, v ≤ h) : gv r xs.length h xs = h * den r xs.length := by
  have hs : IsSet xs.length xs.length (List.range xs.length) := ⟨List.pairwise_lt_range, fun k hk => List.mem_range.mp hk, by simp⟩
  have h1 := gv_ge (r := r) (h := h) hs
  have h2 : raiz h (List.range xs.length) xs = List.replicate xs.length h := by
    apply List.ext_getElem (by simp)
    intro i i1 i2
    have i1 : i < xs.length := by simpa using i1
    have := hx (xs.getD i 0) (by rw [List.getD_eq_getElem?_getD, List.getElem?_eq_getElem i1]; exact List.getElem_mem i1)
    simp [raiz, i1]
    simp [List.getD_eq_getElem?_getD, i1] at this
    omega
  have h3 := num_bds (r := r) (lo := h) (hi := h) (xs := List.replicate xs.length h) (by simpa using hr) (by simp)
  rw [h2] at h1
  simp only [List.length_replicate] at h3
  have h4 : num r (raiz h (bestP r xs.length h xs) xs) ≤ h * den r xs.length := by
    have hd := dom_of_le (xs := raiz h (bestP r xs.length h xs) xs) (h := h) fun v hv => by
      rcases mem_raiz hv with q | q
      · exact hx v q
      · omega
    have h5 := num_mono r hd
    rw [raiz_len] at h5
    omega
  unfold gv at *
  omega
end TM

namespace TM
open PySem
def tupD (P : List Nat) : D := .tuple (P.map natD)
theorem tupD_nil : tupD [] = .tuple [] := rfl
theorem flat_nat {L : List Nat} : (L.map natD).all flatD = true := by
  rw [List.all_eq_true]
  intro d hd
  obtain ⟨k, _, rfl⟩ := List.mem_map.mp hd
  rfl
theorem in_tupD {j : Nat} {P : List Nat} : inOp (.val (.int (j : Int))) (.val (tupD P)) = some (decide (j ∈ P)) := by
  unfold tupD
  have h := any_eqv (v := (j : Int)) (P.map fun (i : Nat) => (i : Int))
  rw [← natD_map] at h
  show (if (flatD (.int (j : Int)) && (P.map natD).all flatD) = true then some ((P.map natD).any fun z => PyData.eqv z (.int (j : Int))) else none) = _
  rw [flat_nat, h, show flatD (.int (j : Int)) = true from rfl]
  simp
  constructor
  · rintro ⟨a, ha, e⟩; rwa [← show a = j by omega]
  · intro h; exact ⟨j, h, rfl⟩
theorem tupD_least {m : Nat} {xs : List Int} : tupD (leastP m xs) = .tuple ((leastI m xs).map .int) := by
  unfold tupD leastP
  rw [List.map_map]
  congr 1
  apply List.map_congr_left
  intro v hv
  have := mem_leastI hv
  show PyData.int ((v.toNat : Nat) : Int) = _
  rw [Int.toNat_of_nonneg this.1]
theorem raiz_ok {h : Int} {P : List Nat} {xs : List Int} (hx : okX xs) (h0 : -99 ≤ h) (h1 : h ≤ 99) : okX (raiz h P xs) := ⟨by simpa using hx.a, by simpa using hx.b, fun v hv => by
  rcases mem_raiz hv with q | q
  · exact hx.c v q
  · omega⟩
/-! ### turned over -/
def negL (xs : List Int) : List Int := xs.map fun v => -v
@[simp] theorem negL_len (xs : List Int) : (negL xs).length = xs.length := by simp [negL]
theorem negL_ok {xs : List Int} (hx : okX xs) : okX (negL xs) := ⟨by simpa using hx.a, by simpa using hx.b, fun v hv => by
  obtain ⟨u, hu, rfl⟩ := List.mem_map.mp hv
  have := hx.c u hu
  omega⟩
theorem num_neg {r : Rl} {xs : List Int} (hr : r.ok xs.length) : num r (negL xs) = -num r xs := by
  have := num_mul hr (-1)
  rw [show negL xs = xs.map (· * (-1)) by unfold negL; apply List.map_congr_left; intro v _; omega, this]
  omega
def lowr (l : Int) (P : List Nat) (xs : List Int) : List Int := (List.range xs.length).map fun k => if k ∈ P then min l (xs.getD k 0) else xs.getD k 0
@[simp] theorem lowr_len (h : Int) (P : List Nat) (xs : List Int) : (lowr h P xs).length = xs.length := by simp [lowr]
theorem negL_get {xs : List Int} {k : Nat} : (negL xs).getD k 0 = -xs.getD k 0 := by
  unfold negL
  simp [List.getD_eq_getElem?_getD]
  cases xs[k]? <;> simp
theorem lowr_neg {l : Int} {P : List Nat} {xs : List Int} : negL (lowr l P xs) = raiz (-l) P (negL xs) := by
  unfold lowr raiz
  rw [negL_len]
  unfold negL
  rw [List.map_map]
  apply List.map_congr_left
  intro k hk
  have := negL_get (xs := xs) (k := k)
  unfold negL at this
  simp only [Function.comp, this]
  split <;> omega
theorem num_lowr {r : Rl} {l : Int} {P : List Nat} {xs : List Int} (hr : r.ok xs.length) : num r (lowr l P xs) = -num r (raiz (-l) P (negL xs)) := by
  rw [← lowr_neg, num_neg (by simpa using hr)]
  omega
theorem lowr_ok {h : Int} {P : List Nat} {xs : List Int} (hx : okX xs) (h0 : -99 ≤ h) (h1 : h ≤ 99) : okX (lowr h P xs) := by
  have h := raiz_ok (h := -h) (P := P) (negL_ok hx) (by omega) (by omega)
  rw [← lowr_neg] at h
  have := negL_ok h
  rwa [show negL (negL (lowr _ P xs)) = lowr _ P xs from by unfold negL; rw [List.map_map]; exact map_id_of fun v _ => by show - -v = v; omega] at this
/-- bounds when borne -/
theorem gv_borne {r : Rl} {m : Nat} {h U : Int} {xs : List Int} (hg : isGr r = false) (hr : r.ok xs.length) (h9 : xs.length ≤ 9) (hc : cntA U xs + m ≤ bear r xs.length) : gv r m h xs ≤ U * den r xs.length := by
  have h1 := borne_high (r := r) (ws := raiz h (bestP r m h xs) xs) (U := U) (by simpa using hr) (by simpa using h9) (by cases r <;> first | rfl | cases hg) (by
    have a := cntA_raiz (t := U) (h := h) (P := bestP r m h xs) (xs := xs)
    have b := (bestP_set (r := r) (m := m) (h := h) (xs := xs)).l
    rw [raiz_len]
    omega)
  rw [raiz_len] at h1
  exact h1
theorem cntA_zero {U : Int} {xs : List Int} (h : ∀ v ∈ xs, v ≤ U) : cntA U xs = 0 := by
  unfold cntA
  rw [List.countP_eq_zero]
  intro v hv
  have := h v hv
  simp; omega
theorem cntA_top {xs : List Int} {i : Nat} (hi : i < xs.length) : cntA ((srt xs).getD (xs.length - 1 - i) 0) xs ≤ i := by
  have h1 : cntA ((srt xs).getD (xs.length - 1 - i) 0) xs = cntA ((srt xs).getD (xs.length - 1 - i) 0) (srt xs) := ((srt_prm xs).countP_eq _).symm
  rw [h1]
  generalize hu : (srt xs).getD (xs.length - 1 - i) 0 = U
  conv => lhs; rw [← List.take_append_drop (xs.length - i) (srt xs)]
  unfold cntA
  rw [List.countP_append]
  have a : ((srt xs).take (xs.length - i)).countP (fun v => decide (U < v)) = 0 := by
    rw [List.countP_eq_zero]
    intro v hv
    obtain ⟨j, hj, hjk, e⟩ := mem_take_getD hv
    have := srt_get (srt_srt xs) (i := j) (j := xs.length - 1 - i) (by omega) (by simp; omega)
    simp; omega
  have b : ((srt xs).drop (xs.length - i)).countP (fun v => decide (U < v)) ≤ i := by
    refine Nat.le_trans List.countP_le_length ?_
    simp; omega
  omega
/-! ### the law's greatest and least -/
theorem maxL_snoc {x : Int} : ∀ l : List Int, maxL (l ++ [x]) = some (match maxL l with | none => x | some m => if m < x then x else m)
  | [] => rfl
  | y :: r => by
    rw [List.cons_append, maxL, maxL_snoc r, maxL]
    cases maxL r with
    | none => simp; split <;> split <;> omega
    | some m => simp; (repeat split) <;> omega
theorem minL_snoc {x : Int} : ∀ l : List Int, minL (l ++ [x]) = some (match minL l with | none => x | some m => if x < m then x else m)
  | [] => rfl
  | y :: r => by
    rw [List.cons_append, minL, minL_snoc r, minL]
    cases minL r with
    | none => simp; split <;> split <;> omega
    | some m => simp; (repeat split) <;> omega
theorem lsets_ne {m z : Nat} : lsets m z ≠ [] := fun e => by
  have : ([] : List Nat) ∈ lsets m z := mem_lsets.mpr .nil
  rw [e] at this
  cases this
theorem max_sets {r : Rl} {m : Nat} {h : Int} {xs : List Int} : maxL ((lsets m xs.length).map fun P => num r (raiz h P xs)) = some (gv r m h xs) := by
  obtain ⟨v, e, hv, hm⟩ := maxL_eq (xs := (lsets m xs.length).map fun P => num r (raiz h P xs)) (by simp [lsets_ne])
  rw [e]
  obtain ⟨P, hP, rfl⟩ := List.mem_map.mp hv
  have h1 := gv_ge (r := r) (h := h) (mem_lsets.mp hP)
  have h2 := hm _ (List.mem_map.mpr ⟨bestP r m h xs, mem_lsets.mpr bestP_set, rfl⟩)
  have : num r (raiz h (bestP r m h xs) xs) = gv r m h xs := rfl
  congr 1
  omega
theorem min_sets {r : Rl} {m : Nat} {l : Int} {xs : List Int} (hr : r.ok xs.length) : minL ((lsets m xs.length).map fun P => num r (lowr l P xs)) = some (-gv r m (-l) (negL xs)) := by
  obtain ⟨v, e, hv, hm⟩ := minL_eq (xs := (lsets m xs.length).map fun P => num r (lowr l P xs)) (by simp [lsets_ne])
  rw [e]
  obtain ⟨P, hP, rfl⟩ := List.mem_map.mp hv
  have hP := mem_lsets.mp hP
  have h1 := gv_ge (r := r) (h := -l) (xs := negL xs) (P := P) (m := m) (by rw [negL_len]; exact hP)
  have hb := bestP_set (r := r) (m := m) (h := -l) (xs := negL xs)
  rw [negL_len] at hb
  have h2 := hm _ (List.mem_map.mpr ⟨bestP r m (-l) (negL xs), mem_lsets.mpr hb, rfl⟩)
  simp only [num_lowr hr] at h2 ⊢
  have : num r (raiz (-l) (bestP r m (-l) (negL xs)) (negL xs)) = gv r m (-l) (negL xs) := rfl
  congr 1
  omega
theorem maxL_bd {l : List Int} {v a b : Int} (h : maxL l = some v) (hl : ∀ u ∈ l, a ≤ u ∧ u ≤ b) : a ≤ v ∧ v ≤ b := by
  obtain ⟨m, e, hm, _⟩ := maxL_eq (xs := l) (fun z => by subst z; cases h)
  rw [e] at h
  cases h
  exact hl _ hm
theorem minL_bd {l : List Int} {v a b : Int} (h : minL l = some v) (hl : ∀ u ∈ l, a ≤ u ∧ u ≤ b) : a ≤ v ∧ v ≤ b := by
  obtain ⟨m, e, hm, _⟩ := minL_eq (xs := l) (fun z => by subst z; cases h)
  rw [e] at h
  cases h
  exact hl _ hm
@[simp] theorem is_nn : isOp (.val .none) (.val .none) = some true := id rfl
@[simp] theorem is_fn {p : Int × Int} : isOp (.val (fr p)) (.val .none) = some false := id rfl
def optF (d : Int) (o : Option Int) : D := match o with
  | none => .none
  | some v => frl d v
def apartL (xs ys : List Int) : List Nat := (List.range xs.length).filter fun k => decide (itm ys k ≠ itm xs k)
theorem apart_len {m : Nat} {h : Int} {xs : List Int} {P : List Nat} (hP : IsSet xs.length m P) : (apartL xs (raiz h P xs)).length ≤ m := by
  refine Nat.le_trans ?_ hP.l
  refine Nat.le_trans ?_ (few_nat P xs.length)
  rw [List.countP_eq_length_filter]
  unfold apartL
  rw [← List.countP_eq_length_filter, ← List.countP_eq_length_filter]
  apply List.countP_mono_left
  intro k hk q
  have hk := List.mem_range.mp hk
  unfold itm at q
  rw [raiz_get hk] at q
  simp at q ⊢
  by_cases z : k ∈ P
  · exact z
  · simp [z] at q
theorem apart_le {h : Int} {xs : List Int} {P : List Nat} {k : Nat} (hk : k ∈ apartL xs (raiz h P xs)) : k < xs.length ∧ itm (raiz h P xs) k ≤ h := by
  obtain ⟨hk, q⟩ := List.mem_filter.mp hk
  have hk := List.mem_range.mp hk
  refine ⟨hk, ?_⟩
  unfold itm at q ⊢
  rw [raiz_get hk] at q ⊢
  simp at q
  by_cases z : k ∈ P
  · simp [z] at q ⊢; omega
  · simp [z] at q
theorem res_raiz {r : Rl} {m : Nat} {h : Int} {xs : List Int} : res r (raiz h (bestP r m h xs) xs) = lowF (gv r m h xs) (den r xs.length) := by unfold res gv; rw [raiz_len]
theorem gv_bd {r : Rl} {m : Nat} {h : Int} {xs : List Int} (hr : r.ok xs.length) (hx : okX xs) (h0 : -99 ≤ h) (h1 : h ≤ 99) : -(99 * 18) ≤ gv r m h xs ∧ gv r m h xs ≤ 99 * 18 := by
  have hy := raiz_ok (P := bestP r m h xs) hx h0 h1
  have := num_bds (r := r) (by simpa using hr) hy.c
  rw [raiz_len] at this
  have hd := den_le hr hx.b
  unfold gv
  omega
end TM

namespace TM
open PySem
/-! ### all lists of a size -/
def ext1 (m : Nat) (row : List Int) : List (List Int) := (List.range (m + 1)).map fun (v : Nat) => row ++ [(v : Int)]
def allL : Nat → Nat → List (List Int)
  | 0, _ => [[]]
  | n + 1, m => (allL n m).flatMap (ext1 m)
theorem ext1_len (m : Nat) (row : List Int) : (ext1 m row).length = m + 1 := by simp [ext1]
theorem flat_len {α β : Type} {f : α → List β} {c : Nat} (h : ∀ a, (f a).length = c) : ∀ l : List α, (l.flatMap f).length = l.length * c
  | [] => by simp
  | a :: r => by simp [List.flatMap_cons, flat_len h r, h a, Nat.succ_mul, Nat.add_comm]
theorem allL_len (m : Nat) : ∀ n, (allL n m).length = (m + 1) ^ n
  | 0 => rfl
  | n + 1 => by rw [allL, flat_len (ext1_len m), allL_len m n, Nat.pow_succ]
theorem allL_mem {m : Nat} : ∀ {n : Nat} {row : List Int}, row ∈ allL n m → row.length = n ∧ ∀ v ∈ row, 0 ≤ v ∧ v ≤ m
  | 0, row, h => by
    have : row = [] := by simpa [allL] using h
    subst this
    simp
  | n + 1, row, h => by
    simp only [allL, List.mem_flatMap, ext1, List.mem_map, List.mem_range] at h
    obtain ⟨a, ha, v, hv, rfl⟩ := h
    obtain ⟨h1, h2⟩ := allL_mem ha
    refine ⟨by simp [h1], fun u hu => ?_⟩
    rcases List.mem_append.mp hu with h | h
    · exact h2 u h
    · have : u = v := by simpa using h
      omega
theorem allL_len4 {n m : Nat} (hn : n ≤ 5) (hm : m ≤ 3) : (allL n m).length ≤ 1024 := by
  rw [allL_len]
  calc (m + 1) ^ n ≤ 4 ^ n := Nat.pow_le_pow_left (by omega) n
    _ ≤ 4 ^ 5 := Nat.pow_le_pow_right (by omega) hn
    _ = 1024 := by decide
def fitL (r : Rl) (n m : Nat) (p : Int × Int) : List (List Int) := (allL n m).filter fun row => decide (res r row = p)
theorem fitL_len {r : Rl} {n m : Nat} {p : Int × Int} (hn : n ≤ 5) (hm : m ≤ 3) : (fitL r n m p).length ≤ 1024 := Nat.le_trans (List.length_filter_le _ _) (allL_len4 hn hm)
theorem cmp_eq_nil {d : D} {ds : List D} (h : okD 8 (.list (d :: ds)) = true := by simp [lD]) : cmpop .Eq (.val (.list (d :: ds))) (.own []) = some false := by
  show (if (okD 8 (.list (d :: ds)) && okD 8 (.list [])) = true then some (PyData.eqv (.list (d :: ds)) (.list [])) else none) = _
  rw [h]
  rfl
/-- a fraction that the program takes -/
structure isFr (p : Int × Int) : Prop where
  a : 1 ≤ p.2
  b : p.2 ≤ 1000
  c : -1000000 ≤ p.1
  d : p.1 ≤ 1000000
  e : Int.gcd p.1 p.2 = 1
end TM

namespace TM
open PySem
/-! ### watchers, stepping -/
abbrev Ww (o : Orc) (sz : Int) (nm : Str) (nb : Int) (ns : List Int) : Wd := [.orc o, .scr [], .wat sz nm nb ns]
@[simp] theorem spcK_spc {k : Nat} : spcK (.val (spc k)) = some k := id rfl
def mC (T : Tab) (z : Str) (k : Nat) (vs : List RV) (w : Wd) : R RV := callT T z (.val (spc k) :: vs) w
@[simp] theorem mC_eq {T : Tab} {z : Str} {k : Nat} {vs : List RV} {w : Wd} : mC T z k vs w = (T z (spc k :: vs.map RV.dat) w).bind (chkC (vs.any RV.isBor)) := id rfl
theorem att_w {G : Cn} {f : EvF} {m z : Str} {args : List Expr} {o : Orc} {sz nb : Int} {nm : Str} {ns : List Int} (h : wTab.lookup m = some z) (hg : G.wt z = true) (hl : args.length ≤ 1) : attC G f m args (.val (spc 2)) (Ww o sz nm nb ns) = (evsW f args (Ww o sz nm nb ns)).bind (mC G.T z 2) := by
  have e : attC G f m args (.val (spc 2)) (Ww o sz nm nb ns) = if (isWat (Ww o sz nm nb ns)[2]? && decide (args.length ≤ 1)) = true then (match wTab.lookup m with
    | some z => if G.wt z = true then (evsW f args (Ww o sz nm nb ns)).bind fun vs w => callT G.T z (.val (spc 2) :: vs) w else .bad
    | none => .bad) else .bad := rfl
  rw [e, if_pos (by simpa [isWat] using hl), h]
  dsimp only
  rw [if_pos hg]
  rfl
section
variable {G : Cn} {f : EvF} {a : Expr} {o : Orc} {sz nb : Int} {nm : Str} {ns : List Int}
@[simp] theorem att_push (hg : G.wt "Watcher.push" = true) : attC G f "push" [a] (.val (spc 2)) (Ww o sz nm nb ns) = (evsW f [a] (Ww o sz nm nb ns)).bind (mC G.T "Watcher.push" 2) := att_w (by decide +kernel) hg (by simp)
@[simp] theorem att_chg (hg : G.wt "Watcher.change_rule" = true) : attC G f "change_rule" [a] (.val (spc 2)) (Ww o sz nm nb ns) = (evsW f [a] (Ww o sz nm nb ns)).bind (mC G.T "Watcher.change_rule" 2) := att_w (by decide +kernel) hg (by simp)
@[simp] theorem att_res (hg : G.wt "Watcher.result" = true) : attC G f "result" [] (.val (spc 2)) (Ww o sz nm nb ns) = mC G.T "Watcher.result" 2 [] (Ww o sz nm nb ns) := att_w (by decide +kernel) hg (by simp)
@[simp] theorem att_lst (hg : G.wt "Watcher.last_values" = true) : attC G f "last_values" [] (.val (spc 2)) (Ww o sz nm nb ns) = mC G.T "Watcher.last_values" 2 [] (Ww o sz nm nb ns) := att_w (by decide +kernel) hg (by simp)
@[simp] theorem att_und (hg : G.wt "Watcher.undo" = true) : attC G f "undo" [] (.val (spc 2)) (Ww o sz nm nb ns) = mC G.T "Watcher.undo" 2 [] (Ww o sz nm nb ns) := att_w (by decide +kernel) hg (by simp)
def lenKC (r : RV) (w : Wd) : R RV := lenK r w
@[simp] theorem lenKC_i {i : Int} {w : Wd} : lenKC (.val (.int i)) w = if decide (0 ≤ i) && decide (i < 1000000) then .ok (.val (.int i)) w else .bad := id rfl
@[simp] theorem lenBC_w (hg : G.wt "Watcher.__len__" = true) : lenBC G [.val (spc 2)] (Ww o sz nm nb ns) = (G.T "Watcher.__len__" [spc 2] (Ww o sz nm nb ns)).bind lenKC := by
  show (if (isWat (Ww o sz nm nb ns)[2]? && G.wt "Watcher.__len__") = true then (G.T "Watcher.__len__" [spc 2] (Ww o sz nm nb ns)).bind lenK else .bad) = _
  rw [hg]
  rfl
end
/-- the result that is due -/
def lastN (sz : Nat) (ns : List Int) : List Int := ns.drop (ns.length - sz)
def dueD (r : Rl) (sz : Nat) (ns : List Int) : D := if ns.length < sz then .none else fr (res r (lastN sz ns))
theorem cut_last {sz : Nat} {ns : List Int} (h : 1 ≤ sz) : cut (ns.map PyData.int) (some (-(sz : Int))) none = (lastN sz ns).map .int := by
  rw [cut_map, cut_ln (by omega)]
  unfold lastN
  congr 2
  omega
theorem lastN_len {sz : Nat} {ns : List Int} (h : sz ≤ ns.length) : (lastN sz ns).length = sz := by unfold lastN; simp; omega
theorem lastN_mem {sz : Nat} {ns : List Int} {v : Int} (h : v ∈ lastN sz ns) : v ∈ ns := List.mem_of_mem_drop h
@[simp] theorem okD_due {n : Nat} {r : Rl} {sz : Nat} {ns : List Int} : okD (n + 1) (dueD r sz ns) = true := by
  unfold dueD
  split <;> simp
@[simp] theorem chkC_due {w : Wd} {z : Bool} {r : Rl} {sz : Nat} {ns : List Int} : chkC z (.val (dueD r sz ns)) w = .ok (.val (dueD r sz ns)) w := by
  unfold dueD
  split
  · cases z <;> rfl
  · simp
theorem rulesL_pos (n : Nat) : 0 < (rulesL n).length := List.length_pos_of_mem (a := .pa) (by simp [rulesL])
theorem getD_in {α : Type} {l : List α} {i : Nat} {d : α} (h : i < l.length) : l.getD i d ∈ l := by
  rw [List.getD_eq_getElem?_getD, List.getElem?_eq_getElem h]
  exact List.getElem_mem h
end TM

namespace TM
open PySem
/-! ### fractions that the program takes -/
theorem low_gcd {t b : Int} (hb : 0 < b) : Int.gcd (lowF t b).1 (lowF t b).2 = 1 := by
  have hg : 0 < Int.gcd t b := Int.gcd_pos_of_ne_zero_right _ (by omega)
  unfold lowF
  dsimp only
  rw [Int.fdiv_eq_ediv_of_nonneg _ (by omega), Int.fdiv_eq_ediv_of_nonneg _ (by omega)]
  exact Int.gcd_ediv_gcd_ediv_gcd hg
theorem isFr_low {t b : Int} (hb : 0 < b) (h1 : b ≤ 1000) (h : -1000000 ≤ t ∧ t ≤ 1000000) : isFr (lowF t b) := by
  have p := low_pos (t := t) hb
  have q := low_le (t := t) hb
  have r := low_bd hb h
  exact ⟨by omega, by omega, r.1, r.2, low_gcd hb⟩
theorem isFr_res {r : Rl} {xs : List Int} (hr : r.ok xs.length) (hx : okX xs) : isFr (res r xs) := by
  have a := den_pos hr
  have b := den_le hr hx.b
  have c := num_bds hr hx.c
  unfold res
  refine isFr_low (by omega) (by omega) ?_
  have e1 : (99 : Int) * den r xs.length ≤ 99 * 18 := by omega
  omega
theorem res_same {r : Rl} {n : Nat} {m : Int} (hr : r.ok n) : res r (List.replicate n m) = (m, 1) := by
  have hl : (List.replicate n m).length = n := by simp
  have hr' : r.ok (List.replicate n m).length := by rw [hl]; exact hr
  have c := num_bds (lo := m) (hi := m) hr' (fun v hv => by have := List.eq_of_mem_replicate hv; omega)
  have e : num r (List.replicate n m) = m * den r n := by rw [hl] at c; omega
  unfold res
  rw [e, hl]
  have hd := den_pos hr
  have := low_mul (c := (den r n : Int)) (by omega) m 1
  rw [Int.one_mul] at this
  rw [this, low_one]
theorem isFr_int {m : Int} (h : -1000000 ≤ m ∧ m ≤ 1000000) : isFr (m, 1) := ⟨by show (1 : Int) ≤ 1; omega, by show (1 : Int) ≤ 1000; omega, h.1, h.2, by simp⟩
theorem allL_ok {n m : Nat} {row : List Int} (h : row ∈ allL n m) (h1 : 1 ≤ n) (h9 : n ≤ 9) (hm : m ≤ 9) : okX row := by
  obtain ⟨a, b⟩ := allL_mem h
  exact ⟨by omega, by omega, fun v hv => by have := b v hv; omega⟩
theorem allL_rep (m : Nat) : ∀ n, List.replicate n (m : Int) ∈ allL n m
  | 0 => by simp [allL]
  | n + 1 => by
    rw [allL, List.replicate_succ', List.mem_flatMap]
    exact ⟨_, allL_rep m n, List.mem_map.mpr ⟨m, by simp, rfl⟩⟩
theorem fitL_top {r : Rl} {n m : Nat} (hr : r.ok n) : 0 < (fitL r n m ((m : Int), 1)).length := List.length_pos_of_mem (a := List.replicate n (m : Int)) (List.mem_filter.mpr ⟨allL_rep m n, by simp [res_same hr]⟩)
/-! ### dicts -/
theorem dget_nil (k : List Ky) : dgetD [] k = none := rfl
theorem dget_cons (p : List Ky × D) (ps : Dct) (k : List Ky) : dgetD (p :: ps) k = if p.1 = k then some p.2 else dgetD ps k := by
  unfold dgetD
  rw [List.find?_cons]
  by_cases e : p.1 = k
  · rw [decide_eq_true e, if_pos e]; rfl
  · rw [decide_eq_false e, if_neg e]
theorem dget_map (k j : List Ky) (d : D) : ∀ ps : Dct, dgetD (ps.map fun kv => if kv.1 = k then (kv.1, d) else kv) j = (dgetD ps j).map fun x => if j = k then d else x
  | [] => rfl
  | p :: r => by
    rw [List.map_cons, dget_cons, dget_cons, dget_map k j d r]
    by_cases e : p.1 = k
    · rw [if_pos e]
      by_cases e2 : p.1 = j
      · rw [if_pos e2, if_pos e2, ← e2]
        simp [e]
      · rw [if_neg e2, if_neg e2]
    · rw [if_neg e]
      by_cases e2 : p.1 = j
      · rw [if_pos e2, if_pos e2]
        have : ¬ j = k := fun z => e (e2.trans z)
        simp [this]
      · rw [if_neg e2, if_neg e2]
theorem dget_any (k : List Ky) : ∀ ps : Dct, (ps.any fun kv => decide (kv.1 = k)) = (dgetD ps k).isSome
  | [] => rfl
  | p :: r => by
    rw [List.any_cons, dget_cons, dget_any k r]
    by_cases e : p.1 = k
    · rw [decide_eq_true e, if_pos e]; rfl
    · rw [decide_eq_false e, if_neg e]; rfl
theorem dget_snoc (k j : List Ky) (d : D) : ∀ ps : Dct, dgetD ps k = none → dgetD (ps ++ [(k, d)]) j = if j = k then some d else dgetD ps j
  | [], _ => by
    rw [List.nil_append, dget_cons]
    by_cases e : k = j
    · rw [if_pos e, if_pos e.symm]
    · rw [if_neg e, if_neg (fun z => e z.symm)]
  | p :: r, h => by
    rw [dget_cons] at h
    by_cases e : p.1 = k
    · rw [if_pos e] at h; cases h
    · rw [if_neg e] at h
      rw [List.cons_append, dget_cons, dget_cons, dget_snoc k j d r h]
      by_cases e2 : p.1 = j
      · have : ¬ j = k := fun z => e (e2.trans z)
        simp [e2, this]
      · simp [e2]
theorem dget_put (ps : Dct) (k j : List Ky) (d : D) : dgetD (dputD ps k d) j = if j = k then some d else dgetD ps j := by
  unfold dputD
  rw [dget_any]
  cases h : dgetD ps k with
  | none => exact dget_snoc k j d ps h
  | some x =>
    rw [if_pos (show (some x).isSome = true from rfl), dget_map]
    by_cases e : j = k
    · rw [if_pos e, e, h]; simp
    · rw [if_neg e]; simp [e]
theorem dput_len (ps : Dct) (k : List Ky) (d : D) : (dputD ps k d).length ≤ ps.length + 1 := by
  unfold dputD
  split <;> simp
theorem dput_key {ps : Dct} {k : List Ky} {d : D} {p : List Ky × D} (h : p ∈ dputD ps k d) : p.1 = k ∨ ∃ q ∈ ps, q.1 = p.1 := by
  unfold dputD at h
  split at h
  · obtain ⟨q, hq, e⟩ := List.mem_map.mp h
    right
    refine ⟨q, hq, ?_⟩
    rw [← e]
    split <;> rfl
  · rcases List.mem_append.mp h with h | h
    · exact .inr ⟨p, h, rfl⟩
    · left
      have : p = (k, d) := by simpa using h
      rw [this]
theorem asKeyL_S : ∀ ks : List Ky, asKeyL (ks.map keyD) = some ks
  | [] => rfl
  | k :: r => by
    show (match asKey (keyD k), asKeyL (r.map keyD) with
      | some k, some ks => some (k :: ks)
      | _, _ => none) = _
    rw [asKeyL_S r]
    cases k <;> rfl
theorem decL_encS : ∀ ps : Dct, decL (ps.map encP) = some ps
  | [] => rfl
  | p :: r => by
    show (match decP (encP p), decL (r.map encP) with
      | some p, some ps => some (p :: ps)
      | _, _ => none) = _
    have e : decP (encP p) = some p := by
      show (asKeyL (p.1.map keyD)).map (fun ks => (ks, p.2)) = some p
      rw [asKeyL_S]
      rfl
    rw [e, decL_encS r]
/-- a fraction as a key -/
def fk (p : Int × Int) : List Ky := [.inl p.1, .inl p.2]
theorem fk_inj {p q : Int × Int} (h : fk p = fk q) : p = q := by
  cases p; cases q
  simp [fk] at h
  simp [h]
@[simp] theorem asKeys_fr {p : Int × Int} : asKeys (fr p) = some (fk p) := id rfl
@[simp] theorem ktD_fk {p : Int × Int} : ktD (fk p) = fr p := id rfl
/-- how often each fraction came -/
def cntS (ps : Dct) (p : Int × Int) : Dct := dputD ps (fk p) (.int ((match dgetD ps (fk p) with | some (.int i) => i | _ => 0) + 1))
def cntL (l : List (Int × Int)) : Dct := l.foldl cntS []
theorem cntL_app (l : List (Int × Int)) (p : Int × Int) : cntL (l ++ [p]) = cntS (cntL l) p := by simp [cntL]
theorem cntL_get (l : List (Int × Int)) : ∀ q, dgetD (cntL l) (fk q) = if l.countP (fun p => decide (p = q)) = 0 then none else some (.int ((l.countP fun p => decide (p = q) : Nat) : Int)) := by
  have gen : ∀ (k : Nat) (l : List (Int × Int)), l.length = k → ∀ q, dgetD (cntL l) (fk q) = if l.countP (fun p => decide (p = q)) = 0 then none else some (.int ((l.countP fun p => decide (p = q) : Nat) : Int)) := by
    intro k
    induction k with
    | zero =>
      intro l hl q
      have : l = [] := List.eq_nil_of_length_eq_zero hl
      subst this
      rfl
    | succ k ih =>
      intro l hl q
      rcases List.eq_nil_or_concat l with rfl | ⟨l', p, e⟩
      · cases hl
      · have e : l = l' ++ [p] := by simpa using e
        subst e
        have hl' : l'.length = k := by simpa using hl
        have ih1 := ih l' hl'
        rw [cntL_app]
        unfold cntS
        rw [dget_put]
        by_cases e : q = p
        · subst e
          rw [if_pos rfl, List.countP_append, ih1]
          by_cases z : l'.countP (fun p => decide (p = q)) = 0
          · simp [z]
          · simp [z]
        · have e' : ¬ fk q = fk p := fun z => e (fk_inj z)
          have e2 : ¬ p = q := fun z => e z.symm
          rw [if_neg e', List.countP_append, ih1]
          have z : List.countP (fun p => decide (p = q)) [p] = 0 := by simp [e2]
          rw [z, Nat.add_zero]
  exact gen l.length l rfl
theorem cntL_len (l : List (Int × Int)) : (cntL l).length ≤ l.length := by
  have gen : ∀ (k : Nat) (l : List (Int × Int)), l.length = k → (cntL l).length ≤ k := by
    intro k
    induction k with
    | zero =>
      intro l hl
      have : l = [] := List.eq_nil_of_length_eq_zero hl
      subst this
      exact Nat.le_refl _
    | succ k ih =>
      intro l hl
      rcases List.eq_nil_or_concat l with rfl | ⟨l', p, e⟩
      · cases hl
      · have e : l = l' ++ [p] := by simpa using e
        subst e
        have hl' : l'.length = k := by simpa using hl
        have := ih l' hl'
        rw [cntL_app]
        have := dput_len (cntL l') (fk p) (.int ((match dgetD (cntL l') (fk p) with | some (.int i) => i | _ => 0) + 1))
        unfold cntS
        omega
  exact gen l.length l rfl
theorem cntL_key {l : List (Int × Int)} {x : List Ky × D} (h : x ∈ cntL l) : ∃ p ∈ l, x.1 = fk p := by
  have gen : ∀ (k : Nat) (l : List (Int × Int)), l.length = k → ∀ x ∈ cntL l, ∃ p ∈ l, x.1 = fk p := by
    intro k
    induction k with
    | zero =>
      intro l hl x hx
      have : l = [] := List.eq_nil_of_length_eq_zero hl
      subst this
      cases hx
    | succ k ih =>
      intro l hl x hx
      rcases List.eq_nil_or_concat l with rfl | ⟨l', p, e⟩
      · cases hl
      · have e : l = l' ++ [p] := by simpa using e
        subst e
        have hl' : l'.length = k := by simpa using hl
        rw [cntL_app] at hx
        unfold cntS at hx
        rcases dput_key hx with h | ⟨q, hq, e⟩
        · exact ⟨p, by simp, h⟩
        · obtain ⟨p', hp', e'⟩ := ih l' hl' q hq
          exact ⟨p', by simp [hp'], by rw [← e, e']⟩
  exact gen l.length l rfl x h
theorem cntL_int (l : List (Int × Int)) (p : Int × Int) : (dgetD (cntL l) (fk p)).getD (.int 0) = .int ((match dgetD (cntL l) (fk p) with | some (.int i) => i | _ => 0)) := by
  rw [cntL_get]
  split <;> rfl
end TM

namespace Row
open PySem TM
def top (i : Nat) : Stmt := PySem.Challenge.pw_trimmedmeans_k09_whole_listed.main.body.getD i (.Pass ⟨0, 0, 0, 0⟩)
def inC (s : Stmt) (j : Nat) : Stmt := match s with
  | .ClassDef _ _ _ b _ _ _ _ _ _ _ => b.getD j (.Pass ⟨0, 0, 0, 0⟩)
  | _ => .Pass ⟨0, 0, 0, 0⟩
def d_is_int : FD := ⟨.body, 3, ["value", "low", "high"], [], top 8⟩
def d_is_rule : FD := ⟨.body, 2, ["value", "size"], [], top 9⟩
def d_check_rule : FD := ⟨.body, 2, ["rule", "size"], [], top 10⟩
def d_common : FD := ⟨.body, 2, ["one", "other"], [], top 12⟩
def d_lowest : FD := ⟨.body, 2, ["top", "below", "divisor"], [], top 13⟩
def d_plus : FD := ⟨.body, 2, ["one", "other"], [], top 14⟩
def d_half_of : FD := ⟨.body, 2, ["one", "other", "found"], [], top 15⟩
def d_less : FD := ⟨.body, 2, ["one", "other"], [], top 16⟩
def d_in_order : FD := ⟨.body, 1, ["some", "found", "one", "place", "other"], [], top 17⟩
def d_middle_of : FD := ⟨.body, 1, ["some", "ordered", "size"], [], top 18⟩
def d_is_fraction : FD := ⟨.body, 1, ["value"], [], top 19⟩
def d_kept_values : FD := ⟨.body, 2, ["data", "number", "ordered"], [], top 21⟩
def d_mean : FD := ⟨.body, 1, ["values"], [], top 22⟩
def d_pair_means : FD := ⟨.body, 1, ["data", "found", "k", "other"], ["found"], top 23⟩
def d_group_means : FD := ⟨.body, 2, ["data", "number", "first"], [], top 24⟩
def d_result_of : FD := ⟨.body, 2, ["rule", "data", "name", "number", "left"], [], top 25⟩
def d_check_told : FD := ⟨.body, 4, ["rule", "size", "most", "told"], [], top 29⟩
def d_all_lists : FD := ⟨.body, 2, ["size", "most", "rows", "turn", "longer", "row", "value"], ["longer"], top 30⟩
def d_fitting : FD := ⟨.body, 4, ["rule", "size", "most", "told", "data"], [], top 31⟩
def d_data_with : FD := ⟨.body, 4, ["rule", "size", "most", "told"], [], top 32⟩
def d_count_with : FD := ⟨.body, 4, ["rule", "size", "most", "told"], [], top 33⟩
def d_first_with : FD := ⟨.body, 4, ["rule", "size", "most", "told", "found"], [], top 34⟩
def d_data_at : FD := ⟨.body, 5, ["rule", "size", "most", "told", "rank", "found"], [], top 35⟩
def d_law_start : FD := ⟨.start, 1, ["script"], [], top 37⟩
def d_law_draw : FD := ⟨.draw, 2, ["draws", "limit", "numbers", "at", "cell", "mixed"], ["draws", "numbers"], top 38⟩
def d_law_pick : FD := ⟨.body, 2, ["draws", "choices"], [], top 39⟩
def d_law_error : FD := ⟨.body, 1, ["caught", "kinds"], [], top 40⟩
def d_law_rules : FD := ⟨.body, 1, ["size", "found", "g", "b"], [], top 41⟩
def d_law_low : FD := ⟨.body, 2, ["top", "under", "one", "other"], [], top 42⟩
def d_law_middle : FD := ⟨.body, 2, ["tops", "under", "ordered", "size"], [], top 43⟩
def d_law_result : FD := ⟨.body, 2, ["rule", "data", "ordered", "size", "name", "g", "tops", "k", "low", "high", "value", "other"], [], top 44⟩
def d_law_call : FD := ⟨.body, 5, ["rule", "size", "most", "told", "rank", "found", "caught", "e"], [], top 45⟩
def d_law : FD := ⟨.body, 1, ["script", "draws", "size", "most", "rows", "k", "rule", "told", "good", "rank", "known", "row", "longer_rows", "own", "value"], ["known"], top 46⟩
def pg : Pg := ⟨[(("is_int" : Str), d_is_int), (("is_rule" : Str), d_is_rule), (("check_rule" : Str), d_check_rule), (("common" : Str), d_common), (("lowest" : Str), d_lowest), (("plus" : Str), d_plus), (("half_of" : Str), d_half_of), (("less" : Str), d_less), (("in_order" : Str), d_in_order), (("middle_of" : Str), d_middle_of), (("is_fraction" : Str), d_is_fraction), (("kept_values" : Str), d_kept_values), (("mean" : Str), d_mean), (("pair_means" : Str), d_pair_means), (("group_means" : Str), d_group_means), (("result_of" : Str), d_result_of), (("check_told" : Str), d_check_told), (("all_lists" : Str), d_all_lists), (("fitting" : Str), d_fitting), (("data_with" : Str), d_data_with), (("count_with" : Str), d_count_with), (("first_with" : Str), d_first_with), (("data_at" : Str), d_data_at), (("_law_start" : Str), d_law_start), (("_law_draw" : Str), d_law_draw), (("_law_pick" : Str), d_law_pick), (("_law_error" : Str), d_law_error), (("_law_rules" : Str), d_law_rules), (("_law_low" : Str), d_law_low), (("_law_middle" : Str), d_law_middle), (("_law_result" : Str), d_law_result), (("_law_call" : Str), d_law_call), (("law" : Str), d_law)], [(("MOST_DATA" : Str), .int 9), (("MOST_SIZE" : Str), .int 5), (("MOST_SEARCH" : Str), .int 3)], [(("MeanError" : Str), ["MeanError", "ValueError"]), (("BadRule" : Str), ["BadRule", "MeanError", "ValueError"]), (("BadData" : Str), ["BadData", "MeanError", "ValueError"]), (("BadNumber" : Str), ["BadNumber", "MeanError", "ValueError"]), (("BadText" : Str), ["BadText", "MeanError", "ValueError"]), (("NotFound" : Str), ["NotFound", "MeanError", "ValueError"])], []⟩
end Row
namespace Row
open PySem PySem.Spec PyProof.Rows L2 TM
theorem sc_is_int : FnScope d_is_int.N (d_is_int.N.take d_is_int.np) (defScope d_is_int.st) := ⟨rfl, rfl, rfl, by decide +kernel, rfl, by decide +kernel, by decide +kernel⟩
theorem bd_is_int : bndP "is_int" d_is_int := fun _ _ _ _ _ _ us hl => match us, hl with | [_, _, _], _ => rfl
theorem ok_is_int : FdOk mgLL "is_int" d_is_int := ⟨bd_is_int, sc_is_int, rfl, by decide +kernel⟩
theorem sc_is_rule : FnScope d_is_rule.N (d_is_rule.N.take d_is_rule.np) (defScope d_is_rule.st) := ⟨rfl, rfl, rfl, by decide +kernel, rfl, by decide +kernel, by decide +kernel⟩
theorem bd_is_rule : bndP "is_rule" d_is_rule := fun _ _ _ _ _ _ us hl => match us, hl with | [_, _], _ => rfl
theorem ok_is_rule : FdOk mgLL "is_rule" d_is_rule := ⟨bd_is_rule, sc_is_rule, rfl, by decide +kernel⟩
theorem sc_check_rule : FnScope d_check_rule.N (d_check_rule.N.take d_check_rule.np) (defScope d_check_rule.st) := ⟨rfl, rfl, rfl, by decide +kernel, rfl, by decide +kernel, by decide +kernel⟩
theorem bd_check_rule : bndP "check_rule" d_check_rule := fun _ _ _ _ _ _ us hl => match us, hl with | [_, _], _ => rfl
theorem ok_check_rule : FdOk mgLL "check_rule" d_check_rule := ⟨bd_check_rule, sc_check_rule, rfl, by decide +kernel⟩
theorem sc_common : FnScope d_common.N (d_common.N.take d_common.np) (defScope d_common.st) := ⟨rfl, rfl, rfl, by decide +kernel, rfl, by decide +kernel, by decide +kernel⟩
theorem bd_common : bndP "common" d_common := fun _ _ _ _ _ _ us hl => match us, hl with | [_, _], _ => rfl
theorem ok_common : FdOk mgLL "common" d_common := ⟨bd_common, sc_common, rfl, by decide +kernel⟩
theorem sc_lowest : FnScope d_lowest.N (d_lowest.N.take d_lowest.np) (defScope d_lowest.st) := ⟨rfl, rfl, rfl, by decide +kernel, rfl, by decide +kernel, by decide +kernel⟩
theorem bd_lowest : bndP "lowest" d_lowest := fun _ _ _ _ _ _ us hl => match us, hl with | [_, _], _ => rfl
theorem ok_lowest : FdOk mgLL "lowest" d_lowest := ⟨bd_lowest, sc_lowest, rfl, by decide +kernel⟩
theorem sc_plus : FnScope d_plus.N (d_plus.N.take d_plus.np) (defScope d_plus.st) := ⟨rfl, rfl, rfl, by decide +kernel, rfl, by decide +kernel, by decide +kernel⟩
theorem bd_plus : bndP "plus" d_plus := fun _ _ _ _ _ _ us hl => match us, hl with | [_, _], _ => rfl
theorem ok_plus : FdOk mgLL "plus" d_plus := ⟨bd_plus, sc_plus, rfl, by decide +kernel⟩
theorem sc_half_of : FnScope d_half_of.N (d_half_of.N.take d_half_of.np) (defScope d_half_of.st) := ⟨rfl, rfl, rfl, by decide +kernel, rfl, by decide +kernel, by decide +kernel⟩
theorem bd_half_of : bndP "half_of" d_half_of := fun _ _ _ _ _ _ us hl => match us, hl with | [_, _], _ => rfl
theorem ok_half_of : FdOk mgLL "half_of" d_half_of := ⟨bd_half_of, sc_half_of, rfl, by decide +kernel⟩
theorem sc_less : FnScope d_less.N (d_less.N.take d_less.np) (defScope d_less.st) := ⟨rfl, rfl, rfl, by decide +kernel, rfl, by decide +kernel, by decide +kernel⟩
theorem bd_less : bndP "less" d_less := fun _ _ _ _ _ _ us hl => match us, hl with | [_, _], _ => rfl
theorem ok_less : FdOk mgLL "less" d_less := ⟨bd_less, sc_less, rfl, by decide +kernel⟩
theorem sc_in_order : FnScope d_in_order.N (d_in_order.N.take d_in_order.np) (defScope d_in_order.st) := ⟨rfl, rfl, rfl, by decide +kernel, rfl, by decide +kernel, by decide +kernel⟩
theorem bd_in_order : bndP "in_order" d_in_order := fun _ _ _ _ _ _ us hl => match us, hl with | [_], _ => rfl
theorem ok_in_order : FdOk mgLL "in_order" d_in_order := ⟨bd_in_order, sc_in_order, rfl, by decide +kernel⟩
theorem sc_middle_of : FnScope d_middle_of.N (d_middle_of.N.take d_middle_of.np) (defScope d_middle_of.st) := ⟨rfl, rfl, rfl, by decide +kernel, rfl, by decide +kernel, by decide +kernel⟩
theorem bd_middle_of : bndP "middle_of" d_middle_of := fun _ _ _ _ _ _ us hl => match us, hl with | [_], _ => rfl
theorem ok_middle_of : FdOk mgLL "middle_of" d_middle_of := ⟨bd_middle_of, sc_middle_of, rfl, by decide +kernel⟩
theorem sc_is_fraction : FnScope d_is_fraction.N (d_is_fraction.N.take d_is_fraction.np) (defScope d_is_fraction.st) := ⟨rfl, rfl, rfl, by decide +kernel, rfl, by decide +kernel, by decide +kernel⟩
theorem bd_is_fraction : bndP "is_fraction" d_is_fraction := fun _ _ _ _ _ _ us hl => match us, hl with | [_], _ => rfl
theorem ok_is_fraction : FdOk mgLL "is_fraction" d_is_fraction := ⟨bd_is_fraction, sc_is_fraction, rfl, by decide +kernel⟩
theorem sc_kept_values : FnScope d_kept_values.N (d_kept_values.N.take d_kept_values.np) (defScope d_kept_values.st) := ⟨rfl, rfl, rfl, by decide +kernel, rfl, by decide +kernel, by decide +kernel⟩
theorem bd_kept_values : bndP "kept_values" d_kept_values := fun _ _ _ _ _ _ us hl => match us, hl with | [_, _], _ => rfl
theorem ok_kept_values : FdOk mgLL "kept_values" d_kept_values := ⟨bd_kept_values, sc_kept_values, rfl, by decide +kernel⟩
theorem sc_mean : FnScope d_mean.N (d_mean.N.take d_mean.np) (defScope d_mean.st) := ⟨rfl, rfl, rfl, by decide +kernel, rfl, by decide +kernel, by decide +kernel⟩
theorem bd_mean : bndP "mean" d_mean := fun _ _ _ _ _ _ us hl => match us, hl with | [_], _ => rfl
theorem ok_mean : FdOk mgLL "mean" d_mean := ⟨bd_mean, sc_mean, rfl, by decide +kernel⟩
theorem sc_pair_means : FnScope d_pair_means.N (d_pair_means.N.take d_pair_means.np) (defScope d_pair_means.st) := ⟨rfl, rfl, rfl, by decide +kernel, rfl, by decide +kernel, by decide +kernel⟩
theorem bd_pair_means : bndP "pair_means" d_pair_means := fun _ _ _ _ _ _ us hl => match us, hl with | [_], _ => rfl
theorem ok_pair_means : FdOk mgLL "pair_means" d_pair_means := ⟨bd_pair_means, sc_pair_means, rfl, by decide +kernel⟩
theorem sc_group_means : FnScope d_group_means.N (d_group_means.N.take d_group_means.np) (defScope d_group_means.st) := ⟨rfl, rfl, rfl, by decide +kernel, rfl, by decide +kernel, by decide +kernel⟩
theorem bd_group_means : bndP "group_means" d_group_means := fun _ _ _ _ _ _ us hl => match us, hl with | [_, _], _ => rfl
theorem ok_group_means : FdOk mgLL "group_means" d_group_means := ⟨bd_group_means, sc_group_means, rfl, by decide +kernel⟩
theorem sc_result_of : FnScope d_result_of.N (d_result_of.N.take d_result_of.np) (defScope d_result_of.st) := ⟨rfl, rfl, rfl, by decide +kernel, rfl, by decide +kernel, by decide +kernel⟩
theorem bd_result_of : bndP "result_of" d_result_of := fun _ _ _ _ _ _ us hl => match us, hl with | [_, _], _ => rfl
theorem ok_result_of : FdOk mgLL "result_of" d_result_of := ⟨bd_result_of, sc_result_of, rfl, by decide +kernel⟩
theorem sc_check_told : FnScope d_check_told.N (d_check_told.N.take d_check_told.np) (defScope d_check_told.st) := ⟨rfl, rfl, rfl, by decide +kernel, rfl, by decide +kernel, by decide +kernel⟩
theorem bd_check_told : bndP "check_told" d_check_told := fun _ _ _ _ _ _ us hl => match us, hl with | [_, _, _, _], _ => rfl
theorem ok_check_told : FdOk mgLL "check_told" d_check_told := ⟨bd_check_told, sc_check_told, rfl, by decide +kernel⟩
theorem sc_all_lists : FnScope d_all_lists.N (d_all_lists.N.take d_all_lists.np) (defScope d_all_lists.st) := ⟨rfl, rfl, rfl, by decide +kernel, rfl, by decide +kernel, by decide +kernel⟩
theorem bd_all_lists : bndP "all_lists" d_all_lists := fun _ _ _ _ _ _ us hl => match us, hl with | [_, _], _ => rfl
theorem ok_all_lists : FdOk mgLL "all_lists" d_all_lists := ⟨bd_all_lists, sc_all_lists, rfl, by decide +kernel⟩
theorem sc_fitting : FnScope d_fitting.N (d_fitting.N.take d_fitting.np) (defScope d_fitting.st) := ⟨rfl, rfl, rfl, by decide +kernel, rfl, by decide +kernel, by decide +kernel⟩
theorem bd_fitting : bndP "fitting" d_fitting := fun _ _ _ _ _ _ us hl => match us, hl with | [_, _, _, _], _ => rfl
theorem ok_fitting : FdOk mgLL "fitting" d_fitting := ⟨bd_fitting, sc_fitting, rfl, by decide +kernel⟩
theorem sc_data_with : FnScope d_data_with.N (d_data_with.N.take d_data_with.np) (defScope d_data_with.st) := ⟨rfl, rfl, rfl, by decide +kernel, rfl, by decide +kernel, by decide +kernel⟩
theorem bd_data_with : bndP "data_with" d_data_with := fun _ _ _ _ _ _ us hl => match us, hl with | [_, _, _, _], _ => rfl
theorem ok_data_with : FdOk mgLL "data_with" d_data_with := ⟨bd_data_with, sc_data_with, rfl, by decide +kernel⟩
theorem sc_count_with : FnScope d_count_with.N (d_count_with.N.take d_count_with.np) (defScope d_count_with.st) := ⟨rfl, rfl, rfl, by decide +kernel, rfl, by decide +kernel, by decide +kernel⟩
theorem bd_count_with : bndP "count_with" d_count_with := fun _ _ _ _ _ _ us hl => match us, hl with | [_, _, _, _], _ => rfl
theorem ok_count_with : FdOk mgLL "count_with" d_count_with := ⟨bd_count_with, sc_count_with, rfl, by decide +kernel⟩
theorem sc_first_with : FnScope d_first_with.N (d_first_with.N.take d_first_with.np) (defScope d_first_with.st) := ⟨rfl, rfl, rfl, by decide +kernel, rfl, by decide +kernel, by decide +kernel⟩
theorem bd_first_with : bndP "first_with" d_first_with := fun _ _ _ _ _ _ us hl => match us, hl with | [_, _, _, _], _ => rfl
theorem ok_first_with : FdOk mgLL "first_with" d_first_with := ⟨bd_first_with, sc_first_with, rfl, by decide +kernel⟩
theorem sc_data_at : FnScope d_data_at.N (d_data_at.N.take d_data_at.np) (defScope d_data_at.st) := ⟨rfl, rfl, rfl, by decide +kernel, rfl, by decide +kernel, by decide +kernel⟩
theorem bd_data_at : bndP "data_at" d_data_at := fun _ _ _ _ _ _ us hl => match us, hl with | [_, _, _, _, _], _ => rfl
theorem ok_data_at : FdOk mgLL "data_at" d_data_at := ⟨bd_data_at, sc_data_at, rfl, by decide +kernel⟩
theorem sc_law_start : FnScope d_law_start.N (d_law_start.N.take d_law_start.np) (defScope d_law_start.st) := ⟨rfl, rfl, rfl, by decide +kernel, rfl, by decide +kernel, by decide +kernel⟩
theorem bd_law_start : bndP "_law_start" d_law_start := fun _ _ _ _ _ _ us hl => match us, hl with | [_], _ => rfl
theorem tm_law_start : termP mgLL d_law_start t_start := fun X hc hm hN hs hu =>
  letI : TM.CNm := ⟨fun _ => 0⟩
  pss_one (ps_ret (pe_lst (pa_cons (pe_ifExp (pt_cmpR (op_neD hu) (vN hN hs 0) (pe_lst pa_nil) (nomark _)) (pe_callTy call_list_of (glN hs rfl) hm.2 boot_list (pa_cons (vN hN hs 0) pa_nil)) (pe_lst (pa_cons pe_int pa_nil))) (pa_cons pe_int pa_nil))))
theorem ok_law_start : FdOk mgLL "_law_start" d_law_start := ⟨bd_law_start, sc_law_start, rfl, rfl, tm_law_start⟩
theorem sc_law_draw : FnScope d_law_draw.N (d_law_draw.N.take d_law_draw.np) (defScope d_law_draw.st) := ⟨rfl, rfl, rfl, by decide +kernel, rfl, by decide +kernel, by decide +kernel⟩
theorem bd_law_draw : bndP "_law_draw" d_law_draw := fun _ _ _ _ _ _ us hl => match us, hl with | [_, _], _ => rfl
theorem tm_law_draw : termP mgLL d_law_draw t_draw := fun X hc hm hN hs hu =>
  letI : TM.CNm := ⟨fun _ => 0⟩
  have nd : d_law_draw.N.Nodup := by decide +kernel
  pss_cons (aN hN hs nd 2 (pe_ix ix_list (vN hN hs 0) pe_int (fun _ _ => rfl)))
  (pss_cons (ps_asg (pe_op op_add (pe_ix ix_list (vN hN hs 0) pe_int (fun _ _ => rfl)) pe_int) (pg_sub (vN hN hs 0) pe_int set_list (fun _ => rfl)))
  (pss_cons (aN hN hs nd 3 (pe_op op_modN (pe_ix ix_list (vN hN hs 0) pe_int (fun _ _ => rfl)) (pe_callB call_len_seq (glN hs rfl) hm.1 boot_len (pa_cons (vN hN hs 2) pa_nil))))
  (pss_cons (aN hN hs nd 4 (pe_ix ix_list (vN hN hs 2) (vN hN hs 3) (fun _ _ => rfl)))
  (pss_cons (ps_if (pt_cmpR op_ge (vN hN hs 4) pe_int (nomark _))
    (pss_cons (ps_asg (pe_op op_fdivN (vN hN hs 4) (vN hN hs 1)) (pg_sub (vN hN hs 2) (vN hN hs 3) set_list (fun _ => rfl))) (pss_one (ps_ret (pe_op op_modN (vN hN hs 4) (vN hN hs 1))))) pss_nil)
  (pss_cons (aN hN hs nd 5 (pe_op op_modN (pe_op op_add (vN hN hs 4) (pe_op op_mul pe_int (pe_ix ix_list (vN hN hs 0) pe_int (fun _ _ => rfl)))) pe_int))
  (pss_cons (aN hN hs nd 5 (pe_op op_modN (pe_op op_pow (vN hN hs 5) pe_int) pe_int))
  (pss_one (ps_ret (pe_op op_modN (pe_op op_fdivN (pe_op op_modN (pe_op op_add (pe_op op_mul (pe_op op_fdivN (vN hN hs 5) pe_int) pe_int) (vN hN hs 5)) pe_int) pe_int) (vN hN hs 1))))))))))
theorem ok_law_draw : FdOk mgLL "_law_draw" d_law_draw := ⟨bd_law_draw, sc_law_draw, rfl, rfl, tm_law_draw⟩
theorem sc_law_pick : FnScope d_law_pick.N (d_law_pick.N.take d_law_pick.np) (defScope d_law_pick.st) := ⟨rfl, rfl, rfl, by decide +kernel, rfl, by decide +kernel, by decide +kernel⟩
theorem bd_law_pick : bndP "_law_pick" d_law_pick := fun _ _ _ _ _ _ us hl => match us, hl with | [_, _], _ => rfl
theorem ok_law_pick : FdOk mgLL "_law_pick" d_law_pick := ⟨bd_law_pick, sc_law_pick, rfl, by decide +kernel⟩
theorem sc_law_error : FnScope d_law_error.N (d_law_error.N.take d_law_error.np) (defScope d_law_error.st) := ⟨rfl, rfl, rfl, by decide +kernel, rfl, by decide +kernel, by decide +kernel⟩
theorem bd_law_error : bndP "_law_error" d_law_error := fun _ _ _ _ _ _ us hl => match us, hl with | [_], _ => rfl
theorem ok_law_error : FdOk mgLL "_law_error" d_law_error := ⟨bd_law_error, sc_law_error, rfl, by decide +kernel⟩
theorem sc_law_rules : FnScope d_law_rules.N (d_law_rules.N.take d_law_rules.np) (defScope d_law_rules.st) := ⟨rfl, rfl, rfl, by decide +kernel, rfl, by decide +kernel, by decide +kernel⟩
theorem bd_law_rules : bndP "_law_rules" d_law_rules := fun _ _ _ _ _ _ us hl => match us, hl with | [_], _ => rfl
theorem ok_law_rules : FdOk mgLL "_law_rules" d_law_rules := ⟨bd_law_rules, sc_law_rules, rfl, by decide +kernel⟩
theorem sc_law_low : FnScope d_law_low.N (d_law_low.N.take d_law_low.np) (defScope d_law_low.st) := ⟨rfl, rfl, rfl, by decide +kernel, rfl, by decide +kernel, by decide +kernel⟩
theorem bd_law_low : bndP "_law_low" d_law_low := fun _ _ _ _ _ _ us hl => match us, hl with | [_, _], _ => rfl
theorem ok_law_low : FdOk mgLL "_law_low" d_law_low := ⟨bd_law_low, sc_law_low, rfl, by decide +kernel⟩
theorem sc_law_middle : FnScope d_law_middle.N (d_law_middle.N.take d_law_middle.np) (defScope d_law_middle.st) := ⟨rfl, rfl, rfl, by decide +kernel, rfl, by decide +kernel, by decide +kernel⟩
theorem bd_law_middle : bndP "_law_middle" d_law_middle := fun _ _ _ _ _ _ us hl => match us, hl with | [_, _], _ => rfl
theorem ok_law_middle : FdOk mgLL "_law_middle" d_law_middle := ⟨bd_law_middle, sc_law_middle, rfl, by decide +kernel⟩
theorem sc_law_result : FnScope d_law_result.N (d_law_result.N.take d_law_result.np) (defScope d_law_result.st) := ⟨rfl, rfl, rfl, by decide +kernel, rfl, by decide +kernel, by decide +kernel⟩
theorem bd_law_result : bndP "_law_result" d_law_result := fun _ _ _ _ _ _ us hl => match us, hl with | [_, _], _ => rfl
theorem ok_law_result : FdOk mgLL "_law_result" d_law_result := ⟨bd_law_result, sc_law_result, rfl, by decide +kernel⟩
theorem sc_law_call : FnScope d_law_call.N (d_law_call.N.take d_law_call.np) (defScope d_law_call.st) := ⟨rfl, rfl, rfl, by decide +kernel, rfl, by decide +kernel, by decide +kernel⟩
theorem bd_law_call : bndP "_law_call" d_law_call := fun _ _ _ _ _ _ us hl => match us, hl with | [_, _, _, _, _], _ => rfl
theorem ok_law_call : FdOk mgLL "_law_call" d_law_call := ⟨bd_law_call, sc_law_call, rfl, by decide +kernel⟩
theorem sc_law : FnScope d_law.N (d_law.N.take d_law.np) (defScope d_law.st) := ⟨rfl, rfl, rfl, by decide +kernel, rfl, by decide +kernel, by decide +kernel⟩
theorem bd_law : bndP "law" d_law := fun _ _ _ _ _ _ us hl => match us, hl with | [_], _ => rfl
theorem ok_law : FdOk mgLL "law" d_law := ⟨bd_law, sc_law, rfl, by decide +kernel⟩
theorem oks : FdsOk mgLL pg.fs := ⟨ok_is_int, ok_is_rule, ok_check_rule, ok_common, ok_lowest, ok_plus, ok_half_of, ok_less, ok_in_order, ok_middle_of, ok_is_fraction, ok_kept_values, ok_mean, ok_pair_means, ok_group_means, ok_result_of, ok_check_told, ok_all_lists, ok_fitting, ok_data_with, ok_count_with, ok_first_with, ok_data_at, ok_law_start, ok_law_draw, ok_law_pick, ok_law_error, ok_law_rules, ok_law_low, ok_law_middle, ok_law_result, ok_law_call, ok_law, trivial⟩
end Row
namespace Row
open PySem TM
theorem wrow : pg.ws = [] ∨ WRow pg := .inl rfl
end Row
namespace Row
open PySem TM
def Gn (n : Nat) (fd : FD) : Cn := ⟨pg.TO n, fun x => (pg.fs.lookup x).isSome, fun x => pg.cs.lookup x, fd.N, fd.mt, fun x => pg.xs.lookup x, fun x => (pg.ws.lookup x).isSome⟩
@[simp] theorem Gn_wt (n : Nat) (fd : FD) (x : Str) : (Gn n fd).wt x = (pg.ws.lookup x).isSome := id rfl
@[simp] theorem Gn_xs (n : Nat) (fd : FD) (x : Str) : (Gn n fd).xs x = pg.xs.lookup x := id rfl
@[simp] theorem Gn_T (n : Nat) (fd : FD) : (Gn n fd).T = pg.TO n := id rfl
@[simp] theorem Gn_N (n : Nat) (fd : FD) : (Gn n fd).N = fd.N := id rfl
@[simp] theorem Gn_mt (n : Nat) (fd : FD) : (Gn n fd).mt = fd.mt := id rfl
@[simp] theorem Gn_dfn (n : Nat) (fd : FD) (x : Str) : (Gn n fd).dfn x = (pg.fs.lookup x).isSome := id rfl
@[simp] theorem Gn_cst (n : Nat) (fd : FD) (x : Str) : (Gn n fd).cst x = pg.cs.lookup x := id rfl
theorem TO_is_int (n : Nat) (a0 : D) (a1 : D) (a2 : D) (w : Wd) : pg.TO (n + 1) "is_int" [a0, a1, a2] w = outV (TM.execs (ex exF (Gn n d_is_int)) (L2.defBody d_is_int.st) [some (.val a0), some (.val a1), some (.val a2)] w) := by kernel_rfl
@[simp] theorem ix_is_int__isinstance : idx d_is_int.N "isinstance" = none := by decide +kernel
@[simp] theorem ix_is_int__value : idx d_is_int.N "value" = some 0 := by decide +kernel
@[simp] theorem ix_is_int__int : idx d_is_int.N "int" = none := by decide +kernel
@[simp] theorem ix_is_int__low : idx d_is_int.N "low" = some 1 := by decide +kernel
@[simp] theorem ix_is_int__high : idx d_is_int.N "high" = some 2 := by decide +kernel
@[simp] theorem ix_is_int__bool : idx d_is_int.N "bool" = none := by decide +kernel
@[simp] theorem ix_is_int__dot0 : idx d_is_int.N ".0" = none := by decide +kernel
@[simp] theorem mt_is_int__value : mtC d_is_int.mt "value" = false := by decide +kernel
@[simp] theorem mt_is_int__low : mtC d_is_int.mt "low" = false := by decide +kernel
@[simp] theorem mt_is_int__high : mtC d_is_int.mt "high" = false := by decide +kernel
theorem TO_is_rule (n : Nat) (a0 : D) (a1 : D) (w : Wd) : pg.TO (n + 1) "is_rule" [a0, a1] w = outV (TM.execs (ex exF (Gn n d_is_rule)) (L2.defBody d_is_rule.st) [some (.val a0), some (.val a1)] w) := by kernel_rfl
@[simp] theorem ix_is_rule__value : idx d_is_rule.N "value" = some 0 := by decide +kernel
@[simp] theorem ix_is_rule__is_int : idx d_is_rule.N "is_int" = none := by decide +kernel
@[simp] theorem ix_is_rule__MOST_DATA : idx d_is_rule.N "MOST_DATA" = none := by decide +kernel
@[simp] theorem ix_is_rule__size : idx d_is_rule.N "size" = some 1 := by decide +kernel
@[simp] theorem ix_is_rule__isinstance : idx d_is_rule.N "isinstance" = none := by decide +kernel
@[simp] theorem ix_is_rule__tuple : idx d_is_rule.N "tuple" = none := by decide +kernel
@[simp] theorem ix_is_rule__len : idx d_is_rule.N "len" = none := by decide +kernel
@[simp] theorem ix_is_rule__str : idx d_is_rule.N "str" = none := by decide +kernel
@[simp] theorem ix_is_rule__dot0 : idx d_is_rule.N ".0" = none := by decide +kernel
@[simp] theorem mt_is_rule__value : mtC d_is_rule.mt "value" = false := by decide +kernel
@[simp] theorem mt_is_rule__size : mtC d_is_rule.mt "size" = false := by decide +kernel
theorem TO_check_rule (n : Nat) (a0 : D) (a1 : D) (w : Wd) : pg.TO (n + 1) "check_rule" [a0, a1] w = outV (TM.execs (ex exF (Gn n d_check_rule)) (L2.defBody d_check_rule.st) [some (.val a0), some (.val a1)] w) := by kernel_rfl
@[simp] theorem ix_check_rule__is_rule : idx d_check_rule.N "is_rule" = none := by decide +kernel
@[simp] theorem ix_check_rule__rule : idx d_check_rule.N "rule" = some 0 := by decide +kernel
@[simp] theorem ix_check_rule__size : idx d_check_rule.N "size" = some 1 := by decide +kernel
@[simp] theorem ix_check_rule__BadRule : idx d_check_rule.N "BadRule" = none := by decide +kernel
@[simp] theorem ix_check_rule__dot0 : idx d_check_rule.N ".0" = none := by decide +kernel
@[simp] theorem mt_check_rule__rule : mtC d_check_rule.mt "rule" = false := by decide +kernel
@[simp] theorem mt_check_rule__size : mtC d_check_rule.mt "size" = false := by decide +kernel
theorem TO_common (n : Nat) (a0 : D) (a1 : D) (w : Wd) : pg.TO (n + 1) "common" [a0, a1] w = outV (TM.execs (ex exF (Gn n d_common)) (L2.defBody d_common.st) [some (.val a0), some (.val a1)] w) := by kernel_rfl
@[simp] theorem ix_common__one : idx d_common.N "one" = some 0 := by decide +kernel
@[simp] theorem ix_common__other : idx d_common.N "other" = some 1 := by decide +kernel
@[simp] theorem ix_common__abs : idx d_common.N "abs" = none := by decide +kernel
@[simp] theorem ix_common__dot0 : idx d_common.N ".0" = none := by decide +kernel
@[simp] theorem mt_common__one : mtC d_common.mt "one" = false := by decide +kernel
@[simp] theorem mt_common__other : mtC d_common.mt "other" = false := by decide +kernel
theorem TO_lowest (n : Nat) (a0 : D) (a1 : D) (w : Wd) : pg.TO (n + 1) "lowest" [a0, a1] w = outV (TM.execs (ex exF (Gn n d_lowest)) (L2.defBody d_lowest.st) [some (.val a0), some (.val a1), none] w) := by kernel_rfl
@[simp] theorem ix_lowest__divisor : idx d_lowest.N "divisor" = some 2 := by decide +kernel
@[simp] theorem ix_lowest__common : idx d_lowest.N "common" = none := by decide +kernel
@[simp] theorem ix_lowest__top : idx d_lowest.N "top" = some 0 := by decide +kernel
@[simp] theorem ix_lowest__below : idx d_lowest.N "below" = some 1 := by decide +kernel
@[simp] theorem ix_lowest__dot0 : idx d_lowest.N ".0" = none := by decide +kernel
@[simp] theorem mt_lowest__top : mtC d_lowest.mt "top" = false := by decide +kernel
@[simp] theorem mt_lowest__below : mtC d_lowest.mt "below" = false := by decide +kernel
@[simp] theorem mt_lowest__divisor : mtC d_lowest.mt "divisor" = false := by decide +kernel
theorem TO_plus (n : Nat) (a0 : D) (a1 : D) (w : Wd) : pg.TO (n + 1) "plus" [a0, a1] w = outV (TM.execs (ex exF (Gn n d_plus)) (L2.defBody d_plus.st) [some (.val a0), some (.val a1)] w) := by kernel_rfl
@[simp] theorem ix_plus__lowest : idx d_plus.N "lowest" = none := by decide +kernel
@[simp] theorem ix_plus__one : idx d_plus.N "one" = some 0 := by decide +kernel
@[simp] theorem ix_plus__other : idx d_plus.N "other" = some 1 := by decide +kernel
@[simp] theorem ix_plus__dot0 : idx d_plus.N ".0" = none := by decide +kernel
@[simp] theorem mt_plus__one : mtC d_plus.mt "one" = false := by decide +kernel
@[simp] theorem mt_plus__other : mtC d_plus.mt "other" = false := by decide +kernel
theorem TO_half_of (n : Nat) (a0 : D) (a1 : D) (w : Wd) : pg.TO (n + 1) "half_of" [a0, a1] w = outV (TM.execs (ex exF (Gn n d_half_of)) (L2.defBody d_half_of.st) [some (.val a0), some (.val a1), none] w) := by kernel_rfl
@[simp] theorem ix_half_of__found : idx d_half_of.N "found" = some 2 := by decide +kernel
@[simp] theorem ix_half_of__plus : idx d_half_of.N "plus" = none := by decide +kernel
@[simp] theorem ix_half_of__one : idx d_half_of.N "one" = some 0 := by decide +kernel
@[simp] theorem ix_half_of__other : idx d_half_of.N "other" = some 1 := by decide +kernel
@[simp] theorem ix_half_of__lowest : idx d_half_of.N "lowest" = none := by decide +kernel
@[simp] theorem ix_half_of__dot0 : idx d_half_of.N ".0" = none := by decide +kernel
@[simp] theorem mt_half_of__one : mtC d_half_of.mt "one" = false := by decide +kernel
@[simp] theorem mt_half_of__other : mtC d_half_of.mt "other" = false := by decide +kernel
@[simp] theorem mt_half_of__found : mtC d_half_of.mt "found" = false := by decide +kernel
theorem TO_less (n : Nat) (a0 : D) (a1 : D) (w : Wd) : pg.TO (n + 1) "less" [a0, a1] w = outV (TM.execs (ex exF (Gn n d_less)) (L2.defBody d_less.st) [some (.val a0), some (.val a1)] w) := by kernel_rfl
@[simp] theorem ix_less__one : idx d_less.N "one" = some 0 := by decide +kernel
@[simp] theorem ix_less__other : idx d_less.N "other" = some 1 := by decide +kernel
@[simp] theorem ix_less__dot0 : idx d_less.N ".0" = none := by decide +kernel
@[simp] theorem mt_less__one : mtC d_less.mt "one" = false := by decide +kernel
@[simp] theorem mt_less__other : mtC d_less.mt "other" = false := by decide +kernel
theorem TO_in_order (n : Nat) (a0 : D) (w : Wd) : pg.TO (n + 1) "in_order" [a0] w = outV (TM.execs (ex exF (Gn n d_in_order)) (L2.defBody d_in_order.st) [some (.val a0), none, none, none, none] w) := by kernel_rfl
@[simp] theorem ix_in_order__found : idx d_in_order.N "found" = some 1 := by decide +kernel
@[simp] theorem ix_in_order__one : idx d_in_order.N "one" = some 2 := by decide +kernel
@[simp] theorem ix_in_order__some : idx d_in_order.N "some" = some 0 := by decide +kernel
@[simp] theorem ix_in_order__place : idx d_in_order.N "place" = some 3 := by decide +kernel
@[simp] theorem ix_in_order__len : idx d_in_order.N "len" = none := by decide +kernel
@[simp] theorem ix_in_order__other : idx d_in_order.N "other" = some 4 := by decide +kernel
@[simp] theorem ix_in_order__less : idx d_in_order.N "less" = none := by decide +kernel
@[simp] theorem ix_in_order__dot0 : idx d_in_order.N ".0" = none := by decide +kernel
@[simp] theorem mt_in_order__some : mtC d_in_order.mt "some" = false := by decide +kernel
@[simp] theorem mt_in_order__found : mtC d_in_order.mt "found" = false := by decide +kernel
@[simp] theorem mt_in_order__one : mtC d_in_order.mt "one" = false := by decide +kernel
@[simp] theorem mt_in_order__place : mtC d_in_order.mt "place" = false := by decide +kernel
@[simp] theorem mt_in_order__other : mtC d_in_order.mt "other" = false := by decide +kernel
theorem TO_middle_of (n : Nat) (a0 : D) (w : Wd) : pg.TO (n + 1) "middle_of" [a0] w = outV (TM.execs (ex exF (Gn n d_middle_of)) (L2.defBody d_middle_of.st) [some (.val a0), none, none] w) := by kernel_rfl
@[simp] theorem ix_middle_of__ordered : idx d_middle_of.N "ordered" = some 1 := by decide +kernel
@[simp] theorem ix_middle_of__size : idx d_middle_of.N "size" = some 2 := by decide +kernel
@[simp] theorem ix_middle_of__in_order : idx d_middle_of.N "in_order" = none := by decide +kernel
@[simp] theorem ix_middle_of__some : idx d_middle_of.N "some" = some 0 := by decide +kernel
@[simp] theorem ix_middle_of__len : idx d_middle_of.N "len" = none := by decide +kernel
@[simp] theorem ix_middle_of__half_of : idx d_middle_of.N "half_of" = none := by decide +kernel
@[simp] theorem ix_middle_of__dot0 : idx d_middle_of.N ".0" = none := by decide +kernel
@[simp] theorem mt_middle_of__some : mtC d_middle_of.mt "some" = false := by decide +kernel
@[simp] theorem mt_middle_of__ordered : mtC d_middle_of.mt "ordered" = false := by decide +kernel
@[simp] theorem mt_middle_of__size : mtC d_middle_of.mt "size" = false := by decide +kernel
theorem TO_is_fraction (n : Nat) (a0 : D) (w : Wd) : pg.TO (n + 1) "is_fraction" [a0] w = outV (TM.execs (ex exF (Gn n d_is_fraction)) (L2.defBody d_is_fraction.st) [some (.val a0)] w) := by kernel_rfl
@[simp] theorem ix_is_fraction__is_int : idx d_is_fraction.N "is_int" = none := by decide +kernel
@[simp] theorem ix_is_fraction__isinstance : idx d_is_fraction.N "isinstance" = none := by decide +kernel
@[simp] theorem ix_is_fraction__value : idx d_is_fraction.N "value" = some 0 := by decide +kernel
@[simp] theorem ix_is_fraction__tuple : idx d_is_fraction.N "tuple" = none := by decide +kernel
@[simp] theorem ix_is_fraction__len : idx d_is_fraction.N "len" = none := by decide +kernel
@[simp] theorem ix_is_fraction__common : idx d_is_fraction.N "common" = none := by decide +kernel
@[simp] theorem ix_is_fraction__dot0 : idx d_is_fraction.N ".0" = none := by decide +kernel
@[simp] theorem mt_is_fraction__value : mtC d_is_fraction.mt "value" = false := by decide +kernel
theorem TO_kept_values (n : Nat) (a0 : D) (a1 : D) (w : Wd) : pg.TO (n + 1) "kept_values" [a0, a1] w = outV (TM.execs (ex exF (Gn n d_kept_values)) (L2.defBody d_kept_values.st) [some (.val a0), some (.val a1), none] w) := by kernel_rfl
@[simp] theorem ix_kept_values__ordered : idx d_kept_values.N "ordered" = some 2 := by decide +kernel
@[simp] theorem ix_kept_values__sorted : idx d_kept_values.N "sorted" = none := by decide +kernel
@[simp] theorem ix_kept_values__data : idx d_kept_values.N "data" = some 0 := by decide +kernel
@[simp] theorem ix_kept_values__number : idx d_kept_values.N "number" = some 1 := by decide +kernel
@[simp] theorem ix_kept_values__len : idx d_kept_values.N "len" = none := by decide +kernel
@[simp] theorem ix_kept_values__dot0 : idx d_kept_values.N ".0" = none := by decide +kernel
@[simp] theorem mt_kept_values__data : mtC d_kept_values.mt "data" = false := by decide +kernel
@[simp] theorem mt_kept_values__number : mtC d_kept_values.mt "number" = false := by decide +kernel
@[simp] theorem mt_kept_values__ordered : mtC d_kept_values.mt "ordered" = false := by decide +kernel
theorem TO_mean (n : Nat) (a0 : D) (w : Wd) : pg.TO (n + 1) "mean" [a0] w = outV (TM.execs (ex exF (Gn n d_mean)) (L2.defBody d_mean.st) [some (.val a0)] w) := by kernel_rfl
@[simp] theorem ix_mean__lowest : idx d_mean.N "lowest" = none := by decide +kernel
@[simp] theorem ix_mean__sum : idx d_mean.N "sum" = none := by decide +kernel
@[simp] theorem ix_mean__values : idx d_mean.N "values" = some 0 := by decide +kernel
@[simp] theorem ix_mean__len : idx d_mean.N "len" = none := by decide +kernel
@[simp] theorem ix_mean__dot0 : idx d_mean.N ".0" = none := by decide +kernel
@[simp] theorem mt_mean__values : mtC d_mean.mt "values" = false := by decide +kernel
theorem TO_pair_means (n : Nat) (a0 : D) (w : Wd) : pg.TO (n + 1) "pair_means" [a0] w = outV (TM.execs (ex exF (Gn n d_pair_means)) (L2.defBody d_pair_means.st) [some (.val a0), none, none, none] w) := by kernel_rfl
@[simp] theorem ix_pair_means__found : idx d_pair_means.N "found" = some 1 := by decide +kernel
@[simp] theorem ix_pair_means__k : idx d_pair_means.N "k" = some 2 := by decide +kernel
@[simp] theorem ix_pair_means__range : idx d_pair_means.N "range" = none := by decide +kernel
@[simp] theorem ix_pair_means__len : idx d_pair_means.N "len" = none := by decide +kernel
@[simp] theorem ix_pair_means__data : idx d_pair_means.N "data" = some 0 := by decide +kernel
@[simp] theorem ix_pair_means__lowest : idx d_pair_means.N "lowest" = none := by decide +kernel
@[simp] theorem ix_pair_means__other : idx d_pair_means.N "other" = some 3 := by decide +kernel
@[simp] theorem ix_pair_means__dot0 : idx d_pair_means.N ".0" = none := by decide +kernel
@[simp] theorem mt_pair_means__data : mtC d_pair_means.mt "data" = false := by decide +kernel
@[simp] theorem mt_pair_means__found : mtC d_pair_means.mt "found" = true := by decide +kernel
@[simp] theorem mt_pair_means__k : mtC d_pair_means.mt "k" = false := by decide +kernel
@[simp] theorem mt_pair_means__other : mtC d_pair_means.mt "other" = false := by decide +kernel
theorem TO_group_means (n : Nat) (a0 : D) (a1 : D) (w : Wd) : pg.TO (n + 1) "group_means" [a0, a1] w = outV (TM.execs (ex exF (Gn n d_group_means)) (L2.defBody d_group_means.st) [some (.val a0), some (.val a1), none] w) := by kernel_rfl
@[simp] theorem ix_group_means__mean : idx d_group_means.N "mean" = none := by decide +kernel
@[simp] theorem ix_group_means__first : idx d_group_means.N "first" = some 2 := by decide +kernel
@[simp] theorem ix_group_means__data : idx d_group_means.N "data" = some 0 := by decide +kernel
@[simp] theorem ix_group_means__range : idx d_group_means.N "range" = none := by decide +kernel
@[simp] theorem ix_group_means__number : idx d_group_means.N "number" = some 1 := by decide +kernel
@[simp] theorem ix_group_means__len : idx d_group_means.N "len" = none := by decide +kernel
@[simp] theorem ix_group_means__dot0 : idx d_group_means.N ".0" = none := by decide +kernel
@[simp] theorem mt_group_means__data : mtC d_group_means.mt "data" = false := by decide +kernel
@[simp] theorem mt_group_means__number : mtC d_group_means.mt "number" = false := by decide +kernel
@[simp] theorem mt_group_means__first : mtC d_group_means.mt "first" = false := by decide +kernel
theorem TO_result_of (n : Nat) (a0 : D) (a1 : D) (w : Wd) : pg.TO (n + 1) "result_of" [a0, a1] w = outV (TM.execs (ex exF (Gn n d_result_of)) (L2.defBody d_result_of.st) [some (.val a0), some (.val a1), none, none, none] w) := by kernel_rfl
@[simp] theorem ix_result_of__rule : idx d_result_of.N "rule" = some 0 := by decide +kernel
@[simp] theorem ix_result_of__name : idx d_result_of.N "name" = some 2 := by decide +kernel
@[simp] theorem ix_result_of__number : idx d_result_of.N "number" = some 3 := by decide +kernel
@[simp] theorem ix_result_of__left : idx d_result_of.N "left" = some 4 := by decide +kernel
@[simp] theorem ix_result_of__middle_of : idx d_result_of.N "middle_of" = none := by decide +kernel
@[simp] theorem ix_result_of__mean : idx d_result_of.N "mean" = none := by decide +kernel
@[simp] theorem ix_result_of__kept_values : idx d_result_of.N "kept_values" = none := by decide +kernel
@[simp] theorem ix_result_of__data : idx d_result_of.N "data" = some 1 := by decide +kernel
@[simp] theorem ix_result_of__pair_means : idx d_result_of.N "pair_means" = none := by decide +kernel
@[simp] theorem ix_result_of__group_means : idx d_result_of.N "group_means" = none := by decide +kernel
@[simp] theorem ix_result_of__dot0 : idx d_result_of.N ".0" = none := by decide +kernel
@[simp] theorem mt_result_of__rule : mtC d_result_of.mt "rule" = false := by decide +kernel
@[simp] theorem mt_result_of__data : mtC d_result_of.mt "data" = false := by decide +kernel
@[simp] theorem mt_result_of__name : mtC d_result_of.mt "name" = false := by decide +kernel
@[simp] theorem mt_result_of__number : mtC d_result_of.mt "number" = false := by decide +kernel
@[simp] theorem mt_result_of__left : mtC d_result_of.mt "left" = false := by decide +kernel
theorem TO_check_told (n : Nat) (a0 : D) (a1 : D) (a2 : D) (a3 : D) (w : Wd) : pg.TO (n + 1) "check_told" [a0, a1, a2, a3] w = outV (TM.execs (ex exF (Gn n d_check_told)) (L2.defBody d_check_told.st) [some (.val a0), some (.val a1), some (.val a2), some (.val a3)] w) := by kernel_rfl
@[simp] theorem ix_check_told__check_rule : idx d_check_told.N "check_rule" = none := by decide +kernel
@[simp] theorem ix_check_told__rule : idx d_check_told.N "rule" = some 0 := by decide +kernel
@[simp] theorem ix_check_told__size : idx d_check_told.N "size" = some 1 := by decide +kernel
@[simp] theorem ix_check_told__is_int : idx d_check_told.N "is_int" = none := by decide +kernel
@[simp] theorem ix_check_told__MOST_SIZE : idx d_check_told.N "MOST_SIZE" = none := by decide +kernel
@[simp] theorem ix_check_told__BadNumber : idx d_check_told.N "BadNumber" = none := by decide +kernel
@[simp] theorem ix_check_told__most : idx d_check_told.N "most" = some 2 := by decide +kernel
@[simp] theorem ix_check_told__MOST_SEARCH : idx d_check_told.N "MOST_SEARCH" = none := by decide +kernel
@[simp] theorem ix_check_told__is_fraction : idx d_check_told.N "is_fraction" = none := by decide +kernel
@[simp] theorem ix_check_told__told : idx d_check_told.N "told" = some 3 := by decide +kernel
@[simp] theorem ix_check_told__dot0 : idx d_check_told.N ".0" = none := by decide +kernel
@[simp] theorem mt_check_told__rule : mtC d_check_told.mt "rule" = false := by decide +kernel
@[simp] theorem mt_check_told__size : mtC d_check_told.mt "size" = false := by decide +kernel
@[simp] theorem mt_check_told__most : mtC d_check_told.mt "most" = false := by decide +kernel
@[simp] theorem mt_check_told__told : mtC d_check_told.mt "told" = false := by decide +kernel
theorem TO_all_lists (n : Nat) (a0 : D) (a1 : D) (w : Wd) : pg.TO (n + 1) "all_lists" [a0, a1] w = outV (TM.execs (ex exF (Gn n d_all_lists)) (L2.defBody d_all_lists.st) [some (.val a0), some (.val a1), none, none, none, none, none] w) := by kernel_rfl
@[simp] theorem ix_all_lists__rows : idx d_all_lists.N "rows" = some 2 := by decide +kernel
@[simp] theorem ix_all_lists__turn : idx d_all_lists.N "turn" = some 3 := by decide +kernel
@[simp] theorem ix_all_lists__range : idx d_all_lists.N "range" = none := by decide +kernel
@[simp] theorem ix_all_lists__size : idx d_all_lists.N "size" = some 0 := by decide +kernel
@[simp] theorem ix_all_lists__longer : idx d_all_lists.N "longer" = some 4 := by decide +kernel
@[simp] theorem ix_all_lists__row : idx d_all_lists.N "row" = some 5 := by decide +kernel
@[simp] theorem ix_all_lists__value : idx d_all_lists.N "value" = some 6 := by decide +kernel
@[simp] theorem ix_all_lists__most : idx d_all_lists.N "most" = some 1 := by decide +kernel
@[simp] theorem ix_all_lists__dot0 : idx d_all_lists.N ".0" = none := by decide +kernel
@[simp] theorem mt_all_lists__size : mtC d_all_lists.mt "size" = false := by decide +kernel
@[simp] theorem mt_all_lists__most : mtC d_all_lists.mt "most" = false := by decide +kernel
@[simp] theorem mt_all_lists__rows : mtC d_all_lists.mt "rows" = false := by decide +kernel
@[simp] theorem mt_all_lists__turn : mtC d_all_lists.mt "turn" = false := by decide +kernel
@[simp] theorem mt_all_lists__longer : mtC d_all_lists.mt "longer" = true := by decide +kernel
@[simp] theorem mt_all_lists__row : mtC d_all_lists.mt "row" = false := by decide +kernel
@[simp] theorem mt_all_lists__value : mtC d_all_lists.mt "value" = false := by decide +kernel
theorem TO_fitting (n : Nat) (a0 : D) (a1 : D) (a2 : D) (a3 : D) (w : Wd) : pg.TO (n + 1) "fitting" [a0, a1, a2, a3] w = outV (TM.execs (ex exF (Gn n d_fitting)) (L2.defBody d_fitting.st) [some (.val a0), some (.val a1), some (.val a2), some (.val a3), none] w) := by kernel_rfl
@[simp] theorem ix_fitting__data : idx d_fitting.N "data" = some 4 := by decide +kernel
@[simp] theorem ix_fitting__all_lists : idx d_fitting.N "all_lists" = none := by decide +kernel
@[simp] theorem ix_fitting__size : idx d_fitting.N "size" = some 1 := by decide +kernel
@[simp] theorem ix_fitting__most : idx d_fitting.N "most" = some 2 := by decide +kernel
@[simp] theorem ix_fitting__told : idx d_fitting.N "told" = some 3 := by decide +kernel
@[simp] theorem ix_fitting__result_of : idx d_fitting.N "result_of" = none := by decide +kernel
@[simp] theorem ix_fitting__rule : idx d_fitting.N "rule" = some 0 := by decide +kernel
@[simp] theorem ix_fitting__dot0 : idx d_fitting.N ".0" = none := by decide +kernel
@[simp] theorem mt_fitting__rule : mtC d_fitting.mt "rule" = false := by decide +kernel
@[simp] theorem mt_fitting__size : mtC d_fitting.mt "size" = false := by decide +kernel
@[simp] theorem mt_fitting__most : mtC d_fitting.mt "most" = false := by decide +kernel
@[simp] theorem mt_fitting__told : mtC d_fitting.mt "told" = false := by decide +kernel
@[simp] theorem mt_fitting__data : mtC d_fitting.mt "data" = false := by decide +kernel
theorem TO_data_with (n : Nat) (a0 : D) (a1 : D) (a2 : D) (a3 : D) (w : Wd) : pg.TO (n + 1) "data_with" [a0, a1, a2, a3] w = outV (TM.execs (ex exF (Gn n d_data_with)) (L2.defBody d_data_with.st) [some (.val a0), some (.val a1), some (.val a2), some (.val a3)] w) := by kernel_rfl
@[simp] theorem ix_data_with__check_told : idx d_data_with.N "check_told" = none := by decide +kernel
@[simp] theorem ix_data_with__rule : idx d_data_with.N "rule" = some 0 := by decide +kernel
@[simp] theorem ix_data_with__size : idx d_data_with.N "size" = some 1 := by decide +kernel
@[simp] theorem ix_data_with__most : idx d_data_with.N "most" = some 2 := by decide +kernel
@[simp] theorem ix_data_with__told : idx d_data_with.N "told" = some 3 := by decide +kernel
@[simp] theorem ix_data_with__fitting : idx d_data_with.N "fitting" = none := by decide +kernel
@[simp] theorem ix_data_with__dot0 : idx d_data_with.N ".0" = none := by decide +kernel
@[simp] theorem mt_data_with__rule : mtC d_data_with.mt "rule" = false := by decide +kernel
@[simp] theorem mt_data_with__size : mtC d_data_with.mt "size" = false := by decide +kernel
@[simp] theorem mt_data_with__most : mtC d_data_with.mt "most" = false := by decide +kernel
@[simp] theorem mt_data_with__told : mtC d_data_with.mt "told" = false := by decide +kernel
theorem TO_count_with (n : Nat) (a0 : D) (a1 : D) (a2 : D) (a3 : D) (w : Wd) : pg.TO (n + 1) "count_with" [a0, a1, a2, a3] w = outV (TM.execs (ex exF (Gn n d_count_with)) (L2.defBody d_count_with.st) [some (.val a0), some (.val a1), some (.val a2), some (.val a3)] w) := by kernel_rfl
@[simp] theorem ix_count_with__check_told : idx d_count_with.N "check_told" = none := by decide +kernel
@[simp] theorem ix_count_with__rule : idx d_count_with.N "rule" = some 0 := by decide +kernel
@[simp] theorem ix_count_with__size : idx d_count_with.N "size" = some 1 := by decide +kernel
@[simp] theorem ix_count_with__most : idx d_count_with.N "most" = some 2 := by decide +kernel
@[simp] theorem ix_count_with__told : idx d_count_with.N "told" = some 3 := by decide +kernel
@[simp] theorem ix_count_with__len : idx d_count_with.N "len" = none := by decide +kernel
@[simp] theorem ix_count_with__fitting : idx d_count_with.N "fitting" = none := by decide +kernel
@[simp] theorem ix_count_with__dot0 : idx d_count_with.N ".0" = none := by decide +kernel
@[simp] theorem mt_count_with__rule : mtC d_count_with.mt "rule" = false := by decide +kernel
@[simp] theorem mt_count_with__size : mtC d_count_with.mt "size" = false := by decide +kernel
@[simp] theorem mt_count_with__most : mtC d_count_with.mt "most" = false := by decide +kernel
@[simp] theorem mt_count_with__told : mtC d_count_with.mt "told" = false := by decide +kernel
theorem TO_first_with (n : Nat) (a0 : D) (a1 : D) (a2 : D) (a3 : D) (w : Wd) : pg.TO (n + 1) "first_with" [a0, a1, a2, a3] w = outV (TM.execs (ex exF (Gn n d_first_with)) (L2.defBody d_first_with.st) [some (.val a0), some (.val a1), some (.val a2), some (.val a3), none] w) := by kernel_rfl
@[simp] theorem ix_first_with__found : idx d_first_with.N "found" = some 4 := by decide +kernel
@[simp] theorem ix_first_with__check_told : idx d_first_with.N "check_told" = none := by decide +kernel
@[simp] theorem ix_first_with__rule : idx d_first_with.N "rule" = some 0 := by decide +kernel
@[simp] theorem ix_first_with__size : idx d_first_with.N "size" = some 1 := by decide +kernel
@[simp] theorem ix_first_with__most : idx d_first_with.N "most" = some 2 := by decide +kernel
@[simp] theorem ix_first_with__told : idx d_first_with.N "told" = some 3 := by decide +kernel
@[simp] theorem ix_first_with__fitting : idx d_first_with.N "fitting" = none := by decide +kernel
@[simp] theorem ix_first_with__NotFound : idx d_first_with.N "NotFound" = none := by decide +kernel
@[simp] theorem ix_first_with__dot0 : idx d_first_with.N ".0" = none := by decide +kernel
@[simp] theorem mt_first_with__rule : mtC d_first_with.mt "rule" = false := by decide +kernel
@[simp] theorem mt_first_with__size : mtC d_first_with.mt "size" = false := by decide +kernel
@[simp] theorem mt_first_with__most : mtC d_first_with.mt "most" = false := by decide +kernel
@[simp] theorem mt_first_with__told : mtC d_first_with.mt "told" = false := by decide +kernel
@[simp] theorem mt_first_with__found : mtC d_first_with.mt "found" = false := by decide +kernel
theorem TO_data_at (n : Nat) (a0 : D) (a1 : D) (a2 : D) (a3 : D) (a4 : D) (w : Wd) : pg.TO (n + 1) "data_at" [a0, a1, a2, a3, a4] w = outV (TM.execs (ex exF (Gn n d_data_at)) (L2.defBody d_data_at.st) [some (.val a0), some (.val a1), some (.val a2), some (.val a3), some (.val a4), none] w) := by kernel_rfl
@[simp] theorem ix_data_at__found : idx d_data_at.N "found" = some 5 := by decide +kernel
@[simp] theorem ix_data_at__check_told : idx d_data_at.N "check_told" = none := by decide +kernel
@[simp] theorem ix_data_at__rule : idx d_data_at.N "rule" = some 0 := by decide +kernel
@[simp] theorem ix_data_at__size : idx d_data_at.N "size" = some 1 := by decide +kernel
@[simp] theorem ix_data_at__most : idx d_data_at.N "most" = some 2 := by decide +kernel
@[simp] theorem ix_data_at__told : idx d_data_at.N "told" = some 3 := by decide +kernel
@[simp] theorem ix_data_at__fitting : idx d_data_at.N "fitting" = none := by decide +kernel
@[simp] theorem ix_data_at__rank : idx d_data_at.N "rank" = some 4 := by decide +kernel
@[simp] theorem ix_data_at__is_int : idx d_data_at.N "is_int" = none := by decide +kernel
@[simp] theorem ix_data_at__BadNumber : idx d_data_at.N "BadNumber" = none := by decide +kernel
@[simp] theorem ix_data_at__len : idx d_data_at.N "len" = none := by decide +kernel
@[simp] theorem ix_data_at__dot0 : idx d_data_at.N ".0" = none := by decide +kernel
@[simp] theorem mt_data_at__rule : mtC d_data_at.mt "rule" = false := by decide +kernel
@[simp] theorem mt_data_at__size : mtC d_data_at.mt "size" = false := by decide +kernel
@[simp] theorem mt_data_at__most : mtC d_data_at.mt "most" = false := by decide +kernel
@[simp] theorem mt_data_at__told : mtC d_data_at.mt "told" = false := by decide +kernel
@[simp] theorem mt_data_at__rank : mtC d_data_at.mt "rank" = false := by decide +kernel
@[simp] theorem mt_data_at__found : mtC d_data_at.mt "found" = false := by decide +kernel
theorem TO_law_pick (n : Nat) (a0 : D) (a1 : D) (w : Wd) : pg.TO (n + 1) "_law_pick" [a0, a1] w = outV (TM.execs (ex exF (Gn n d_law_pick)) (L2.defBody d_law_pick.st) [some (.val a0), some (.val a1)] w) := by kernel_rfl
@[simp] theorem ix_law_pick__choices : idx d_law_pick.N "choices" = some 1 := by decide +kernel
@[simp] theorem ix_law_pick___law_draw : idx d_law_pick.N "_law_draw" = none := by decide +kernel
@[simp] theorem ix_law_pick__draws : idx d_law_pick.N "draws" = some 0 := by decide +kernel
@[simp] theorem ix_law_pick__len : idx d_law_pick.N "len" = none := by decide +kernel
@[simp] theorem ix_law_pick__dot0 : idx d_law_pick.N ".0" = none := by decide +kernel
@[simp] theorem mt_law_pick__draws : mtC d_law_pick.mt "draws" = false := by decide +kernel
@[simp] theorem mt_law_pick__choices : mtC d_law_pick.mt "choices" = false := by decide +kernel
theorem TO_law_error (n : Nat) (a0 : D) (w : Wd) : pg.TO (n + 1) "_law_error" [a0] w = outV (TM.execs (ex exF (Gn n d_law_error)) (L2.defBody d_law_error.st) [some (.val a0), none] w) := by kernel_rfl
@[simp] theorem ix_law_error__kinds : idx d_law_error.N "kinds" = some 1 := by decide +kernel
@[simp] theorem ix_law_error__isinstance : idx d_law_error.N "isinstance" = none := by decide +kernel
@[simp] theorem ix_law_error__caught : idx d_law_error.N "caught" = some 0 := by decide +kernel
@[simp] theorem ix_law_error__BadRule : idx d_law_error.N "BadRule" = none := by decide +kernel
@[simp] theorem ix_law_error__BadData : idx d_law_error.N "BadData" = none := by decide +kernel
@[simp] theorem ix_law_error__BadNumber : idx d_law_error.N "BadNumber" = none := by decide +kernel
@[simp] theorem ix_law_error__BadText : idx d_law_error.N "BadText" = none := by decide +kernel
@[simp] theorem ix_law_error__NotFound : idx d_law_error.N "NotFound" = none := by decide +kernel
@[simp] theorem ix_law_error__MeanError : idx d_law_error.N "MeanError" = none := by decide +kernel
@[simp] theorem ix_law_error__ValueError : idx d_law_error.N "ValueError" = none := by decide +kernel
@[simp] theorem ix_law_error__dot0 : idx d_law_error.N ".0" = none := by decide +kernel
@[simp] theorem mt_law_error__caught : mtC d_law_error.mt "caught" = false := by decide +kernel
@[simp] theorem mt_law_error__kinds : mtC d_law_error.mt "kinds" = false := by decide +kernel
theorem TO_law_rules (n : Nat) (a0 : D) (w : Wd) : pg.TO (n + 1) "_law_rules" [a0] w = outV (TM.execs (ex exF (Gn n d_law_rules)) (L2.defBody d_law_rules.st) [some (.val a0), none, none, none] w) := by kernel_rfl
@[simp] theorem ix_law_rules__found : idx d_law_rules.N "found" = some 1 := by decide +kernel
@[simp] theorem ix_law_rules__g : idx d_law_rules.N "g" = some 2 := by decide +kernel
@[simp] theorem ix_law_rules__range : idx d_law_rules.N "range" = none := by decide +kernel
@[simp] theorem ix_law_rules__size : idx d_law_rules.N "size" = some 0 := by decide +kernel
@[simp] theorem ix_law_rules__b : idx d_law_rules.N "b" = some 3 := by decide +kernel
@[simp] theorem ix_law_rules__dot0 : idx d_law_rules.N ".0" = none := by decide +kernel
@[simp] theorem mt_law_rules__size : mtC d_law_rules.mt "size" = false := by decide +kernel
@[simp] theorem mt_law_rules__found : mtC d_law_rules.mt "found" = false := by decide +kernel
@[simp] theorem mt_law_rules__g : mtC d_law_rules.mt "g" = false := by decide +kernel
@[simp] theorem mt_law_rules__b : mtC d_law_rules.mt "b" = false := by decide +kernel
theorem TO_law_low (n : Nat) (a0 : D) (a1 : D) (w : Wd) : pg.TO (n + 1) "_law_low" [a0, a1] w = outV (TM.execs (ex exF (Gn n d_law_low)) (L2.defBody d_law_low.st) [some (.val a0), some (.val a1), none, none] w) := by kernel_rfl
@[simp] theorem ix_law_low__one : idx d_law_low.N "one" = some 2 := by decide +kernel
@[simp] theorem ix_law_low__other : idx d_law_low.N "other" = some 3 := by decide +kernel
@[simp] theorem ix_law_low__under : idx d_law_low.N "under" = some 1 := by decide +kernel
@[simp] theorem ix_law_low__abs : idx d_law_low.N "abs" = none := by decide +kernel
@[simp] theorem ix_law_low__top : idx d_law_low.N "top" = some 0 := by decide +kernel
@[simp] theorem ix_law_low__dot0 : idx d_law_low.N ".0" = none := by decide +kernel
@[simp] theorem mt_law_low__top : mtC d_law_low.mt "top" = false := by decide +kernel
@[simp] theorem mt_law_low__under : mtC d_law_low.mt "under" = false := by decide +kernel
@[simp] theorem mt_law_low__one : mtC d_law_low.mt "one" = false := by decide +kernel
@[simp] theorem mt_law_low__other : mtC d_law_low.mt "other" = false := by decide +kernel
theorem TO_law_middle (n : Nat) (a0 : D) (a1 : D) (w : Wd) : pg.TO (n + 1) "_law_middle" [a0, a1] w = outV (TM.execs (ex exF (Gn n d_law_middle)) (L2.defBody d_law_middle.st) [some (.val a0), some (.val a1), none, none] w) := by kernel_rfl
@[simp] theorem ix_law_middle__ordered : idx d_law_middle.N "ordered" = some 2 := by decide +kernel
@[simp] theorem ix_law_middle__size : idx d_law_middle.N "size" = some 3 := by decide +kernel
@[simp] theorem ix_law_middle__sorted : idx d_law_middle.N "sorted" = none := by decide +kernel
@[simp] theorem ix_law_middle__tops : idx d_law_middle.N "tops" = some 0 := by decide +kernel
@[simp] theorem ix_law_middle__len : idx d_law_middle.N "len" = none := by decide +kernel
@[simp] theorem ix_law_middle___law_low : idx d_law_middle.N "_law_low" = none := by decide +kernel
@[simp] theorem ix_law_middle__under : idx d_law_middle.N "under" = some 1 := by decide +kernel
@[simp] theorem ix_law_middle__dot0 : idx d_law_middle.N ".0" = none := by decide +kernel
@[simp] theorem mt_law_middle__tops : mtC d_law_middle.mt "tops" = false := by decide +kernel
@[simp] theorem mt_law_middle__under : mtC d_law_middle.mt "under" = false := by decide +kernel
@[simp] theorem mt_law_middle__ordered : mtC d_law_middle.mt "ordered" = false := by decide +kernel
@[simp] theorem mt_law_middle__size : mtC d_law_middle.mt "size" = false := by decide +kernel
theorem TO_law_result (n : Nat) (a0 : D) (a1 : D) (w : Wd) : pg.TO (n + 1) "_law_result" [a0, a1] w = outV (TM.execs (ex exF (Gn n d_law_result)) (L2.defBody d_law_result.st) [some (.val a0), some (.val a1), none, none, none, none, none, none, none, none, none, none] w) := by kernel_rfl
@[simp] theorem ix_law_result__rule : idx d_law_result.N "rule" = some 0 := by decide +kernel
@[simp] theorem ix_law_result__ordered : idx d_law_result.N "ordered" = some 2 := by decide +kernel
@[simp] theorem ix_law_result__size : idx d_law_result.N "size" = some 3 := by decide +kernel
@[simp] theorem ix_law_result__name : idx d_law_result.N "name" = some 4 := by decide +kernel
@[simp] theorem ix_law_result__g : idx d_law_result.N "g" = some 5 := by decide +kernel
@[simp] theorem ix_law_result__sorted : idx d_law_result.N "sorted" = none := by decide +kernel
@[simp] theorem ix_law_result__data : idx d_law_result.N "data" = some 1 := by decide +kernel
@[simp] theorem ix_law_result__len : idx d_law_result.N "len" = none := by decide +kernel
@[simp] theorem ix_law_result__tops : idx d_law_result.N "tops" = some 6 := by decide +kernel
@[simp] theorem ix_law_result__k : idx d_law_result.N "k" = some 7 := by decide +kernel
@[simp] theorem ix_law_result___law_middle : idx d_law_result.N "_law_middle" = none := by decide +kernel
@[simp] theorem ix_law_result___law_low : idx d_law_result.N "_law_low" = none := by decide +kernel
@[simp] theorem ix_law_result__low : idx d_law_result.N "low" = some 8 := by decide +kernel
@[simp] theorem ix_law_result__high : idx d_law_result.N "high" = some 9 := by decide +kernel
@[simp] theorem ix_law_result__range : idx d_law_result.N "range" = none := by decide +kernel
@[simp] theorem ix_law_result__sum : idx d_law_result.N "sum" = none := by decide +kernel
@[simp] theorem ix_law_result__min : idx d_law_result.N "min" = none := by decide +kernel
@[simp] theorem ix_law_result__value : idx d_law_result.N "value" = some 10 := by decide +kernel
@[simp] theorem ix_law_result__other : idx d_law_result.N "other" = some 11 := by decide +kernel
@[simp] theorem ix_law_result__max : idx d_law_result.N "max" = none := by decide +kernel
@[simp] theorem ix_law_result__dot0 : idx d_law_result.N ".0" = none := by decide +kernel
@[simp] theorem mt_law_result__rule : mtC d_law_result.mt "rule" = false := by decide +kernel
@[simp] theorem mt_law_result__data : mtC d_law_result.mt "data" = false := by decide +kernel
@[simp] theorem mt_law_result__ordered : mtC d_law_result.mt "ordered" = false := by decide +kernel
@[simp] theorem mt_law_result__size : mtC d_law_result.mt "size" = false := by decide +kernel
@[simp] theorem mt_law_result__name : mtC d_law_result.mt "name" = false := by decide +kernel
@[simp] theorem mt_law_result__g : mtC d_law_result.mt "g" = false := by decide +kernel
@[simp] theorem mt_law_result__tops : mtC d_law_result.mt "tops" = false := by decide +kernel
@[simp] theorem mt_law_result__k : mtC d_law_result.mt "k" = false := by decide +kernel
@[simp] theorem mt_law_result__low : mtC d_law_result.mt "low" = false := by decide +kernel
@[simp] theorem mt_law_result__high : mtC d_law_result.mt "high" = false := by decide +kernel
@[simp] theorem mt_law_result__value : mtC d_law_result.mt "value" = false := by decide +kernel
@[simp] theorem mt_law_result__other : mtC d_law_result.mt "other" = false := by decide +kernel
theorem TO_law_call (n : Nat) (a0 : D) (a1 : D) (a2 : D) (a3 : D) (a4 : D) (w : Wd) : pg.TO (n + 1) "_law_call" [a0, a1, a2, a3, a4] w = outV (TM.execs (ex exF (Gn n d_law_call)) (L2.defBody d_law_call.st) [some (.val a0), some (.val a1), some (.val a2), some (.val a3), some (.val a4), none, none, none] w) := by kernel_rfl
@[simp] theorem ix_law_call__found : idx d_law_call.N "found" = some 5 := by decide +kernel
@[simp] theorem ix_law_call__caught : idx d_law_call.N "caught" = some 6 := by decide +kernel
@[simp] theorem ix_law_call__MeanError : idx d_law_call.N "MeanError" = none := by decide +kernel
@[simp] theorem ix_law_call__e : idx d_law_call.N "e" = some 7 := by decide +kernel
@[simp] theorem ix_law_call___law_error : idx d_law_call.N "_law_error" = none := by decide +kernel
@[simp] theorem ix_law_call__rank : idx d_law_call.N "rank" = some 4 := by decide +kernel
@[simp] theorem ix_law_call__first_with : idx d_law_call.N "first_with" = none := by decide +kernel
@[simp] theorem ix_law_call__rule : idx d_law_call.N "rule" = some 0 := by decide +kernel
@[simp] theorem ix_law_call__size : idx d_law_call.N "size" = some 1 := by decide +kernel
@[simp] theorem ix_law_call__most : idx d_law_call.N "most" = some 2 := by decide +kernel
@[simp] theorem ix_law_call__told : idx d_law_call.N "told" = some 3 := by decide +kernel
@[simp] theorem ix_law_call__data_at : idx d_law_call.N "data_at" = none := by decide +kernel
@[simp] theorem ix_law_call__dot0 : idx d_law_call.N ".0" = none := by decide +kernel
@[simp] theorem mt_law_call__rule : mtC d_law_call.mt "rule" = false := by decide +kernel
@[simp] theorem mt_law_call__size : mtC d_law_call.mt "size" = false := by decide +kernel
@[simp] theorem mt_law_call__most : mtC d_law_call.mt "most" = false := by decide +kernel
@[simp] theorem mt_law_call__told : mtC d_law_call.mt "told" = false := by decide +kernel
@[simp] theorem mt_law_call__rank : mtC d_law_call.mt "rank" = false := by decide +kernel
@[simp] theorem mt_law_call__found : mtC d_law_call.mt "found" = false := by decide +kernel
@[simp] theorem mt_law_call__caught : mtC d_law_call.mt "caught" = false := by decide +kernel
@[simp] theorem mt_law_call__e : mtC d_law_call.mt "e" = false := by decide +kernel
theorem TO_law (n : Nat) (a0 : D) (w : Wd) : pg.TO (n + 1) "law" [a0] w = outV (TM.execs (ex exF (Gn n d_law)) (L2.defBody d_law.st) [some (.val a0), none, none, none, none, none, none, none, none, none, none, none, none, none, none] w) := by kernel_rfl
@[simp] theorem ix_law__draws : idx d_law.N "draws" = some 1 := by decide +kernel
@[simp] theorem ix_law__size : idx d_law.N "size" = some 2 := by decide +kernel
@[simp] theorem ix_law__most : idx d_law.N "most" = some 3 := by decide +kernel
@[simp] theorem ix_law__rows : idx d_law.N "rows" = some 4 := by decide +kernel
@[simp] theorem ix_law__k : idx d_law.N "k" = some 5 := by decide +kernel
@[simp] theorem ix_law__rule : idx d_law.N "rule" = some 6 := by decide +kernel
@[simp] theorem ix_law__told : idx d_law.N "told" = some 7 := by decide +kernel
@[simp] theorem ix_law__good : idx d_law.N "good" = some 8 := by decide +kernel
@[simp] theorem ix_law__rank : idx d_law.N "rank" = some 9 := by decide +kernel
@[simp] theorem ix_law__known : idx d_law.N "known" = some 10 := by decide +kernel
@[simp] theorem ix_law__row : idx d_law.N "row" = some 11 := by decide +kernel
@[simp] theorem ix_law___law_start : idx d_law.N "_law_start" = none := by decide +kernel
@[simp] theorem ix_law__script : idx d_law.N "script" = some 0 := by decide +kernel
@[simp] theorem ix_law__range : idx d_law.N "range" = none := by decide +kernel
@[simp] theorem ix_law__longer_rows : idx d_law.N "longer_rows" = some 12 := by decide +kernel
@[simp] theorem ix_law___law_pick : idx d_law.N "_law_pick" = none := by decide +kernel
@[simp] theorem ix_law___law_result : idx d_law.N "_law_result" = none := by decide +kernel
@[simp] theorem ix_law___law_draw : idx d_law.N "_law_draw" = none := by decide +kernel
@[simp] theorem ix_law__own : idx d_law.N "own" = some 13 := by decide +kernel
@[simp] theorem ix_law___law_rules : idx d_law.N "_law_rules" = none := by decide +kernel
@[simp] theorem ix_law___law_low : idx d_law.N "_law_low" = none := by decide +kernel
@[simp] theorem ix_law___law_call : idx d_law.N "_law_call" = none := by decide +kernel
@[simp] theorem ix_law__count_with : idx d_law.N "count_with" = none := by decide +kernel
@[simp] theorem ix_law__data_with : idx d_law.N "data_with" = none := by decide +kernel
@[simp] theorem ix_law__len : idx d_law.N "len" = none := by decide +kernel
@[simp] theorem ix_law__value : idx d_law.N "value" = some 14 := by decide +kernel
@[simp] theorem ix_law__dot0 : idx d_law.N ".0" = none := by decide +kernel
@[simp] theorem mt_law__script : mtC d_law.mt "script" = false := by decide +kernel
@[simp] theorem mt_law__draws : mtC d_law.mt "draws" = false := by decide +kernel
@[simp] theorem mt_law__size : mtC d_law.mt "size" = false := by decide +kernel
@[simp] theorem mt_law__most : mtC d_law.mt "most" = false := by decide +kernel
@[simp] theorem mt_law__rows : mtC d_law.mt "rows" = false := by decide +kernel
@[simp] theorem mt_law__k : mtC d_law.mt "k" = false := by decide +kernel
@[simp] theorem mt_law__rule : mtC d_law.mt "rule" = false := by decide +kernel
@[simp] theorem mt_law__told : mtC d_law.mt "told" = false := by decide +kernel
@[simp] theorem mt_law__good : mtC d_law.mt "good" = false := by decide +kernel
@[simp] theorem mt_law__rank : mtC d_law.mt "rank" = false := by decide +kernel
@[simp] theorem mt_law__known : mtC d_law.mt "known" = true := by decide +kernel
@[simp] theorem mt_law__row : mtC d_law.mt "row" = false := by decide +kernel
@[simp] theorem mt_law__longer_rows : mtC d_law.mt "longer_rows" = false := by decide +kernel
@[simp] theorem mt_law__own : mtC d_law.mt "own" = false := by decide +kernel
@[simp] theorem mt_law__value : mtC d_law.mt "value" = false := by decide +kernel
@[simp] theorem fs_BadData : pg.fs.lookup ("BadData" : Str) = none := by decide +kernel
@[simp] theorem fs_BadNumber : pg.fs.lookup ("BadNumber" : Str) = none := by decide +kernel
@[simp] theorem fs_BadRule : pg.fs.lookup ("BadRule" : Str) = none := by decide +kernel
@[simp] theorem fs_BadText : pg.fs.lookup ("BadText" : Str) = none := by decide +kernel
@[simp] theorem fs_MOST_DATA : pg.fs.lookup ("MOST_DATA" : Str) = none := by decide +kernel
@[simp] theorem fs_MOST_SEARCH : pg.fs.lookup ("MOST_SEARCH" : Str) = none := by decide +kernel
@[simp] theorem fs_MOST_SIZE : pg.fs.lookup ("MOST_SIZE" : Str) = none := by decide +kernel
@[simp] theorem fs_MeanError : pg.fs.lookup ("MeanError" : Str) = none := by decide +kernel
@[simp] theorem fs_NotFound : pg.fs.lookup ("NotFound" : Str) = none := by decide +kernel
@[simp] theorem fs_ValueError : pg.fs.lookup ("ValueError" : Str) = none := by decide +kernel
@[simp] theorem fs__law_call : pg.fs.lookup ("_law_call" : Str) = some d_law_call := id rfl
@[simp] theorem fs__law_draw : pg.fs.lookup ("_law_draw" : Str) = some d_law_draw := id rfl
@[simp] theorem fs__law_error : pg.fs.lookup ("_law_error" : Str) = some d_law_error := id rfl
@[simp] theorem fs__law_low : pg.fs.lookup ("_law_low" : Str) = some d_law_low := id rfl
@[simp] theorem fs__law_middle : pg.fs.lookup ("_law_middle" : Str) = some d_law_middle := id rfl
@[simp] theorem fs__law_pick : pg.fs.lookup ("_law_pick" : Str) = some d_law_pick := id rfl
@[simp] theorem fs__law_result : pg.fs.lookup ("_law_result" : Str) = some d_law_result := id rfl
@[simp] theorem fs__law_rules : pg.fs.lookup ("_law_rules" : Str) = some d_law_rules := id rfl
@[simp] theorem fs__law_start : pg.fs.lookup ("_law_start" : Str) = some d_law_start := id rfl
@[simp] theorem fs_abs : pg.fs.lookup ("abs" : Str) = none := by decide +kernel
@[simp] theorem bl_abs : bltTab.lookup ("abs" : Str) = some Blt.abs := by decide +kernel
@[simp] theorem fs_all_lists : pg.fs.lookup ("all_lists" : Str) = some d_all_lists := id rfl
@[simp] theorem fs_bool : pg.fs.lookup ("bool" : Str) = none := by decide +kernel
@[simp] theorem fs_check_rule : pg.fs.lookup ("check_rule" : Str) = some d_check_rule := id rfl
@[simp] theorem fs_check_told : pg.fs.lookup ("check_told" : Str) = some d_check_told := id rfl
@[simp] theorem fs_common : pg.fs.lookup ("common" : Str) = some d_common := id rfl
@[simp] theorem fs_count_with : pg.fs.lookup ("count_with" : Str) = some d_count_with := id rfl
@[simp] theorem fs_data_at : pg.fs.lookup ("data_at" : Str) = some d_data_at := id rfl
@[simp] theorem fs_data_with : pg.fs.lookup ("data_with" : Str) = some d_data_with := id rfl
@[simp] theorem fs_first_with : pg.fs.lookup ("first_with" : Str) = some d_first_with := id rfl
@[simp] theorem fs_fitting : pg.fs.lookup ("fitting" : Str) = some d_fitting := id rfl
@[simp] theorem fs_group_means : pg.fs.lookup ("group_means" : Str) = some d_group_means := id rfl
@[simp] theorem fs_half_of : pg.fs.lookup ("half_of" : Str) = some d_half_of := id rfl
@[simp] theorem fs_in_order : pg.fs.lookup ("in_order" : Str) = some d_in_order := id rfl
@[simp] theorem fs_int : pg.fs.lookup ("int" : Str) = none := by decide +kernel
@[simp] theorem bl_int : bltTab.lookup ("int" : Str) = some Blt.int := by decide +kernel
@[simp] theorem fs_is_fraction : pg.fs.lookup ("is_fraction" : Str) = some d_is_fraction := id rfl
@[simp] theorem fs_is_int : pg.fs.lookup ("is_int" : Str) = some d_is_int := id rfl
@[simp] theorem fs_is_rule : pg.fs.lookup ("is_rule" : Str) = some d_is_rule := id rfl
@[simp] theorem fs_isinstance : pg.fs.lookup ("isinstance" : Str) = none := by decide +kernel
@[simp] theorem bl_isinstance : bltTab.lookup ("isinstance" : Str) = some Blt.isinst := by decide +kernel
@[simp] theorem fs_kept_values : pg.fs.lookup ("kept_values" : Str) = some d_kept_values := id rfl
@[simp] theorem fs_len : pg.fs.lookup ("len" : Str) = none := by decide +kernel
@[simp] theorem bl_len : bltTab.lookup ("len" : Str) = some Blt.len := by decide +kernel
@[simp] theorem fs_less : pg.fs.lookup ("less" : Str) = some d_less := id rfl
@[simp] theorem fs_lowest : pg.fs.lookup ("lowest" : Str) = some d_lowest := id rfl
@[simp] theorem fs_max : pg.fs.lookup ("max" : Str) = none := by decide +kernel
@[simp] theorem bl_max : bltTab.lookup ("max" : Str) = some Blt.max := by decide +kernel
@[simp] theorem fs_mean : pg.fs.lookup ("mean" : Str) = some d_mean := id rfl
@[simp] theorem fs_middle_of : pg.fs.lookup ("middle_of" : Str) = some d_middle_of := id rfl
@[simp] theorem fs_min : pg.fs.lookup ("min" : Str) = none := by decide +kernel
@[simp] theorem bl_min : bltTab.lookup ("min" : Str) = some Blt.min := by decide +kernel
@[simp] theorem fs_pair_means : pg.fs.lookup ("pair_means" : Str) = some d_pair_means := id rfl
@[simp] theorem fs_plus : pg.fs.lookup ("plus" : Str) = some d_plus := id rfl
@[simp] theorem fs_range : pg.fs.lookup ("range" : Str) = none := by decide +kernel
@[simp] theorem bl_range : bltTab.lookup ("range" : Str) = some Blt.range := by decide +kernel
@[simp] theorem fs_result_of : pg.fs.lookup ("result_of" : Str) = some d_result_of := id rfl
@[simp] theorem fs_sorted : pg.fs.lookup ("sorted" : Str) = none := by decide +kernel
@[simp] theorem bl_sorted : bltTab.lookup ("sorted" : Str) = some Blt.sorted := by decide +kernel
@[simp] theorem fs_str : pg.fs.lookup ("str" : Str) = none := by decide +kernel
@[simp] theorem bl_str : bltTab.lookup ("str" : Str) = some Blt.str := by decide +kernel
@[simp] theorem fs_sum : pg.fs.lookup ("sum" : Str) = none := by decide +kernel
@[simp] theorem bl_sum : bltTab.lookup ("sum" : Str) = some Blt.sum := by decide +kernel
@[simp] theorem fs_tuple : pg.fs.lookup ("tuple" : Str) = none := by decide +kernel
@[simp] theorem bl_tuple : bltTab.lookup ("tuple" : Str) = some Blt.tuple := by decide +kernel
@[simp] theorem cs_MOST_DATA : pg.cs.lookup ("MOST_DATA" : Str) = some (.int 9) := by exact id rfl
@[simp] theorem cs_MOST_SIZE : pg.cs.lookup ("MOST_SIZE" : Str) = some (.int 5) := by exact id rfl
@[simp] theorem cs_MOST_SEARCH : pg.cs.lookup ("MOST_SEARCH" : Str) = some (.int 3) := by exact id rfl
@[simp] theorem xs_MeanError : pg.xs.lookup ("MeanError" : Str) = some (["MeanError", "ValueError"] : List Str) := by kernel_rfl
@[simp] theorem xs_BadRule : pg.xs.lookup ("BadRule" : Str) = some (["BadRule", "MeanError", "ValueError"] : List Str) := by kernel_rfl
@[simp] theorem xs_BadData : pg.xs.lookup ("BadData" : Str) = some (["BadData", "MeanError", "ValueError"] : List Str) := by kernel_rfl
@[simp] theorem xs_BadNumber : pg.xs.lookup ("BadNumber" : Str) = some (["BadNumber", "MeanError", "ValueError"] : List Str) := by kernel_rfl
@[simp] theorem xs_BadText : pg.xs.lookup ("BadText" : Str) = some (["BadText", "MeanError", "ValueError"] : List Str) := by kernel_rfl
@[simp] theorem xs_NotFound : pg.xs.lookup ("NotFound" : Str) = some (["NotFound", "MeanError", "ValueError"] : List Str) := by kernel_rfl
end Row
namespace Row
open PySem TM

theorem S_is_int (n : Nat) (v lo hi : Int) (w : Wd) : pg.TO (n + 1) "is_int" [.int v, .int lo, .int hi] w = .ok (.val (.bool (decide (lo ≤ v ∧ v ≤ hi)))) w := by
  rw [TO_is_int, show L2.defBody d_is_int.st = [_] from rfl]
  simp []
  split <;> simp [*]

theorem S_is_rule (n : Nat) (r : Rl) (z : Nat) (h0 : r.ok z) (h1 : z ≤ 9) (w : Wd) : pg.TO (n + 2) "is_rule" [rlD r, .int z] w = .ok (.val (.bool true)) w := by
  rw [TO_is_rule, show L2.defBody d_is_rule.st = [_, _, _, _, _] from rfl]
  cases r with
  | tr g =>
    have h0 : 2 * g < z := h0
    have e : (g : Int) ≤ 9 := by omega
    have e2 : 2 * (g : Int) < z := by omega
    simp [rlD, Rl.nm, Rl.nb, S_is_int, e, e2, bin_mul (i := 2) (mul_sm (by unfold sm; omega))]
  | wi g =>
    have h0 : 2 * g < z := h0
    have e : (g : Int) ≤ 9 := by omega
    have e2 : 2 * (g : Int) < z := by omega
    simp [rlD, Rl.nm, Rl.nb, S_is_int, e, e2, bin_mul (i := 2) (mul_sm (by unfold sm; omega))]
  | pa =>
    simp [rlD, Rl.nm, Rl.nb, S_is_int, cmp_eq_str]
  | gr b =>
    obtain ⟨h2, h3, h4⟩ := h0
    have e : b ≤ 9 := Nat.le_trans (Nat.le_of_dvd h3 (Nat.dvd_of_mod_eq_zero h4)) h1
    have e' : (b : Int) ≤ 9 := by omega
    have e2 : (z : Int).fmod b = 0 := by rw [Int.fmod_eq_emod_of_nonneg _ (by omega), ← Int.natCast_emod, h4]; rfl
    simp [rlD, Rl.nm, Rl.nb, S_is_int, e', h2, cmp_eq_str, bin_mod (show (b : Int) ≠ 0 by omega), e2]

theorem S_check_rule (n : Nat) (r : Rl) (z : Nat) (h0 : r.ok z) (h1 : z ≤ 9) (w : Wd) : pg.TO (n + 3) "check_rule" [rlD r, .int z] w = .ok (.val .none) w := by
  rw [TO_check_rule, show L2.defBody d_check_rule.st = [_] from rfl]
  simp [S_is_rule n r z h0 h1]
end Row

namespace Row
open PySem TM

theorem S_common (n : Nat) (a b : Int) (hb : b.natAbs < 18446744073709551615) (w : Wd) : pg.TO (n + 1) "common" [.int a, .int b] w = .ok (.val (.int (Int.gcd a b))) w := by
  rw [TO_common, show L2.defBody d_common.st = [_, _, _] from rfl]
  simp
  rw [abs_if, abs_if, whl_gcd (mk := fun x y => [some (.val (.int x)), some (.val (.int y))]) (by intro x y; simp [cndF_eq]) (by intro x y h; simp [bdyF_eq, bin_mod h]) turns _ _ (by omega) (by omega) (by unfold turns; omega)]
  simp
  rfl

theorem S_lowest (n : Nat) (t b : Int) (h0 : 0 < b) (h1 : b < 1073741824) (w : Wd) : pg.TO (n + 2) "lowest" [.int t, .int b] w = .ok (.val (fr (lowF t b))) w := by
  rw [TO_lowest, show L2.defBody d_lowest.st = [_, _] from rfl]
  simp [S_common n t b (by omega), bin_div (gcd_ok (t := t) h0 h1)]
  rfl

theorem S_less (n : Nat) (p q : Int × Int) (ha : sm p.1) (hc : sm q.1) (w : Wd) : pg.TO (n + 1) "less" [fr p, fr q] w = .ok (.val (.bool (decide (p.1 * q.2 < q.1 * p.2)))) w := by
  rw [TO_less, show L2.defBody d_less.st = [_] from rfl]
  simp [fr, bin_mul (mul_sm ha), bin_mul (mul_sm hc)]

theorem S_plus (n : Nat) (p q : Int × Int) (ha : sm p.1) (hb : sm p.2) (hc : sm q.1) (h0 : 0 < p.2 * q.2) (h1 : p.2 * q.2 < 1073741824) (w : Wd) : pg.TO (n + 3) "plus" [fr p, fr q] w = .ok (.val (fr (lowF (p.1 * q.2 + q.1 * p.2) (p.2 * q.2)))) w := by
  rw [TO_plus, show L2.defBody d_plus.st = [_] from rfl]
  have h2 : noL 8 (fr (lowF (p.1 * q.2 + q.1 * p.2) (p.2 * q.2))) = true := rfl
  simp [nameW, isOwn, bin_mul (mul_sm ha), bin_mul (mul_sm hb), bin_mul (mul_sm hc), S_lowest n _ _ h0 h1, show ∀ p, fr p = .tuple [.int p.1, .int p.2] from fun _ => rfl]

theorem S_half_of (n : Nat) (p q : Int × Int) (ha : okf p) (hb : okf q) (w : Wd) : pg.TO (n + 4) "half_of" [fr p, fr q] w = .ok (.val (fr (lowF (lowF (p.1 * q.2 + q.1 * p.2) (p.2 * q.2)).1 (2 * (lowF (p.1 * q.2 + q.1 * p.2) (p.2 * q.2)).2)))) w := by
  rw [TO_half_of, show L2.defBody d_half_of.st = [_, _] from rfl]
  obtain ⟨h0, h1⟩ := ha.mul hb
  have h2 := low_pos (t := p.1 * q.2 + q.1 * p.2) h0
  have h3 := low_le (t := p.1 * q.2 + q.1 * p.2) h0
  simp [S_plus n p q ha.a ha.sb hb.a h0 (by omega)]
  generalize lowF (p.1 * q.2 + q.1 * p.2) (p.2 * q.2) = u at *
  simp [fr, bin_mul (i := 2) (mul_sm (by unfold sm; omega)), S_lowest (n + 1) _ _ (show 0 < 2 * u.2 by omega) (by omega)]

theorem S_in_order (n : Nat) (ts : List Int) (b : Int) (ht : ∀ t ∈ ts, sm t) (h0 : 0 < b) (h1 : b < 16384) (hl : ts.length ≤ 1000) (w : Wd) : pg.TO (n + 2) "in_order" [.list (ts.map (frl b))] w = .ok (.val (.list ((srt ts).map (frl b)))) w := by
  rw [TO_in_order, show L2.defBody d_in_order.st = [_, _, _] from rfl]
  simp
  generalize hm : forL _ _ _ _ = m
  obtain ⟨s', w', rfl, rfl, x, y, z, rfl⟩ := forL_map hm (fun pre s w' => w' = w ∧ ∃ x y z, s = [some (.val (.list (ts.map (frl b)))), some (.val (.list ((srt pre).map (frl b)))), x, y, z]) ⟨rfl, _, _, _, rfl⟩ (by
    rintro pre t post s w' e ⟨rfl, x, y, z, rfl⟩ P hP
    have hp : pre.length + post.length + 1 = ts.length := by rw [e]; simp; omega
    have sm' : ∀ u ∈ srt pre, sm u := fun u hu => ht u (by rw [e]; simp [(srt_prm pre).mem_iff.mp hu])
    have st : sm t := ht t (by rw [e]; simp)
    simp [loopF_eq, compW_eq]
    rw [compL_mapF (c := fun u => decide (u ≤ t)) (h := frl b)]
    · have hc : ((srt pre).filter fun u => decide (u ≤ t)).length ≤ pre.length := Nat.le_trans (List.length_filter_le _ _) (by simp)
      have hc2 : ((srt pre).filter fun u => decide (u ≤ t)).length ≤ 100000 := by omega
      simp [hc2, cut_h, cut_l]
      rw [bin_oo (by simp; omega)]
      simp [cut_l]
      rw [bin_oo (by simp; omega)]
      simp
      have key : (srt (pre ++ [t])).map (frl b) = List.take (List.filter (fun u => decide (u ≤ t)) (srt pre)).length (List.map (frl b) (srt pre)) ++ frl b t :: List.drop (List.filter (fun u => decide (u ≤ t)) (srt pre)).length (List.map (frl b) (srt pre)) := by
        rw [← put_srt]
        simp
      rw [← key]
      exact hP _ _ ⟨rfl, _, _, _, rfl⟩
    · intro u hu
      simp [eltW_eq]
      rw [show frl b t = fr (lowF t b) from rfl, show frl b u = fr (lowF u b) from rfl, S_less n _ _ (okf_low st h0 h1).a (okf_low (sm' u hu) h0 h1).a]
      by_cases q : t < u
      · simp [low_lt1 h0, q, show ¬ u ≤ t by omega]
      · simp [low_lt1 h0, q, show u ≤ t by omega])
  simp
end Row

namespace Row
open PySem TM

theorem S_middle_of (n : Nat) (ts : List Int) (b : Int) (ht : ∀ t ∈ ts, sm t) (h0 : 0 < b) (h1 : b < 16384) (hp : 0 < ts.length) (hl : ts.length ≤ 1000) (w : Wd) : pg.TO (n + 5) "middle_of" [.list (ts.map (frl b))] w = .ok (.val (fr (lowF (mid2 ts) (2 * b)))) w := by
  rw [TO_middle_of, show L2.defBody d_middle_of.st = [_, _, _] from rfl]
  obtain ⟨j1, e1, k1⟩ : ∃ j : Nat, j = (ts.length - 1) / 2 ∧ ((ts.length : Int) - 1).fdiv 2 = j := ⟨_, rfl, by rw [Int.fdiv_eq_ediv_of_nonneg _ (by omega)]; omega⟩
  obtain ⟨j2, e2, k2⟩ : ∃ j : Nat, j = ts.length / 2 ∧ (ts.length : Int).fdiv 2 = j := ⟨_, rfl, by rw [Int.fdiv_eq_ediv_of_nonneg _ (by omega)]; omega⟩
  have m1 := ht _ ((srt_prm ts).mem_iff.mp (itm_mem (xs := srt ts) (i := j1) (by simp; omega)))
  have m2 := ht _ ((srt_prm ts).mem_iff.mp (itm_mem (xs := srt ts) (i := j2) (by simp; omega)))
  have this := S_half_of n _ _ (okf_low m1 h0 h1) (okf_low m2 h0 h1) w
  have em : mid2 ts = itm (srt ts) j1 + itm (srt ts) j2 := by unfold mid2 itm; rw [e1, e2]
  have a1 := at_nat (f := frl b) (xs := srt ts) (i := j1) (by simp; omega)
  have a2 := at_nat (f := frl b) (xs := srt ts) (i := j2) (by simp; omega)
  rw [low_add1 h0, low_half h0, ← em] at this
  simp [S_in_order (n + 2) ts b ht h0 h1 hl, bin_div (j := 2) rfl, k1, k2, a1, a2, frl, this]

theorem S_kept_values (n : Nat) (xs : List Int) (g : Nat) (hg : 2 * g ≤ xs.length) (w : Wd) : pg.TO (n + 1) "kept_values" [.list (xs.map .int), .int g] w = .ok (.own ((kept g xs).map .int)) w := by
  rw [TO_kept_values, show L2.defBody d_kept_values.st = [_, _] from rfl]
  simp [cut_map]
  rw [cut_lh (by omega) (by omega)]
  have : ((xs.length : Int) - g).toNat - (g : Int).toNat = xs.length - 2 * g := by omega
  rw [this]
  rfl

theorem S_mean (n : Nat) (xs : List Int) (h0 : 0 < xs.length) (h1 : xs.length ≤ 1000) (w : Wd) : pg.TO (n + 3) "mean" [.list (xs.map .int)] w = .ok (.val (fr (lowF xs.sum xs.length))) w := by
  rw [TO_mean, show L2.defBody d_mean.st = [_] from rfl]
  simp [S_lowest n xs.sum xs.length (by omega) (by omega)]

theorem S_pair_means (n : Nat) (xs : List Int) (h1 : xs.length ≤ 9) (w : Wd) : pg.TO (n + 3) "pair_means" [.list (xs.map .int)] w = .ok (.own ((prs xs).map (frl 2))) w := by
  rw [TO_pair_means, show L2.defBody d_pair_means.st = [_, _, _] from rfl]
  simp [rangeA1 (b := xs.length) (by omega) (by omega)]
  generalize hm : forL _ _ _ _ = m
  obtain ⟨s', w', rfl, rfl, x, y, rfl⟩ := forL_map hm (fun pre s w' => w' = w ∧ ∃ x y, s = [some (.val (.list (xs.map .int))), some (.own ((pre.flatMap (prow xs)).map (frl 2))), x, y]) ⟨rfl, _, _, rfl⟩ (by
    rintro pre t post s w' e ⟨rfl, x, y, rfl⟩ P hP
    have ht : t < xs.length := List.mem_range.mp (by rw [e]; simp)
    have hl := pre_len h1 e
    have hx := prow_len xs t
    simp [loopF_eq, compW_eq, cut_l]
    rw [← List.map_drop, compL_map (h := fun u => frl 2 (itm xs t + u)), show (xs.drop t).map (fun u => frl 2 (itm xs t + u)) = (prow xs t).map (frl 2) by simp [prow, Function.comp_def]]
    · have hb : (prow xs t).length ≤ 100000 := by omega
      simp [hb]
      rw [aug_oo (by simp only [List.length_map]; omega)]
      simp
      exact hP _ _ ⟨rfl, _, _, (by simp only [List.flatMap_append, List.flatMap_cons, List.flatMap_nil, List.append_nil, List.map_append]; rfl)⟩
    · intro u hu
      simp [eltW_eq, at_nat ht, S_lowest n _ 2 (by omega) (by omega)]
      rfl)
  simp [prs_range, show (fun i => (xs.drop i).map fun y => itm xs i + y) = prow xs from rfl]
  rw [show (fun i => List.drop i (List.map (fun y => itm xs i + y) xs)) = prow xs from by funext i; simp [prow]]

theorem S_group_means (n : Nat) (xs : List Int) (b : Nat) (h1 : xs.length ≤ 9) (hb : 0 < b) (hb9 : b ≤ 9) (hd : xs.length % b = 0) (w : Wd) : pg.TO (n + 4) "group_means" [.list (xs.map .int), .int b] w = .ok (.own ((grp b xs).map (frl b))) w := by
  rw [TO_group_means, show L2.defBody d_group_means.st = [_] from rfl]
  have hm : xs.length = xs.length / b * b := by have := Nat.div_add_mod xs.length b; rw [Nat.mul_comm]; omega
  have hr : rangeA [.val (.int 0), .val (.int (xs.length : Int)), .val (.int (b : Int))] = some ((List.range (xs.length / b)).map fun (i : Nat) => .int (((i * b : Nat) : Int))) := by
    rw [show (xs.length : Int) = ((xs.length / b * b : Nat) : Int) by rw [← hm]]
    exact rangeA3 hb (by omega) (by omega)
  simp [compW_eq, hr]
  rw [compL_map (h := fun i => frl b ((xs.drop (i * b)).take b).sum)]
  · have : xs.length / b ≤ xs.length := Nat.div_le_self _ _
    have : xs.length / b ≤ 100000 := by omega
    simp [this, grp]
    try rfl
  · intro i hi
    have hi : i < xs.length / b := List.mem_range.mp hi
    have h3 : b * (i + 1) ≤ b * (xs.length / b) := Nat.mul_le_mul_left b hi
    rw [Nat.mul_comm b (xs.length / b), ← hm, Nat.mul_add, Nat.mul_comm b i] at h3
    have hl : ((xs.drop (i * b)).take b).length = b := by simp; omega
    have hs := S_mean n ((xs.drop (i * b)).take b) (by omega) (by omega) w
    rw [hl] at hs
    have hc : cut (xs.map PyData.int) (some ((i * b : Nat) : Int)) (some (((i * b : Nat) : Int) + (b : Int))) = ((xs.drop (i * b)).take b).map .int := by
      rw [cut_map, cut_lh (by omega) (by omega)]
      congr 2
      omega
    simp only [Int.natCast_mul] at hc
    simp [eltW_eq, hc]
    rw [← List.map_drop, ← List.map_take, hs]
    simp
    rfl

theorem S_res_tr (n : Nat) (g : Nat) (xs : List Int) (hr : (Rl.tr g).ok xs.length) (h1 : xs.length ≤ 9) (hv : ∀ v ∈ xs, -1000000 ≤ v ∧ v ≤ 1000000) (w : Wd) : pg.TO (n + 6) "result_of" [rlD (Rl.tr g), .list (xs.map .int)] w = .ok (.val (fr (res (Rl.tr g) xs))) w := by
  rw [TO_result_of, show L2.defBody d_result_of.st = [_, _, _, _] from rfl]
  have hr : 2 * g < xs.length := hr
  have kl := kept_len (g := g) (xs := xs) (by omega)
  have e : res (.tr g) xs = lowF (kept g xs).sum (xs.length - 2 * g : Nat) := rfl
  simp [rlD, Rl.nm, Rl.nb, cmp_eq_str, S_kept_values (n + 4) xs g (by omega), S_mean (n + 2) (kept g xs) (by omega) (by omega), kl, e]
theorem S_res_wi (n : Nat) (g : Nat) (xs : List Int) (hr : (Rl.wi g).ok xs.length) (h1 : xs.length ≤ 9) (hv : ∀ v ∈ xs, -1000000 ≤ v ∧ v ≤ 1000000) (w : Wd) : pg.TO (n + 6) "result_of" [rlD (Rl.wi g), .list (xs.map .int)] w = .ok (.val (fr (res (Rl.wi g) xs))) w := by
  rw [TO_result_of, show L2.defBody d_result_of.st = [_, _, _, _] from rfl]
  have hr : 2 * g < xs.length := hr
  have kl := kept_len (g := g) (xs := xs) (by omega)
  have k1 := kept_first hr
  have k2 := kept_last hr
  have c1 : cut ((kept g xs).map PyData.int) none (some 1) = [.int (lowV g xs)] := by
    rw [cut_map, cut_h (by omega), show (1 : Int).toNat = 1 from rfl, k1]; rfl
  have c2 : cut ((kept g xs).map PyData.int) (some (-1)) none = [.int (highV g xs)] := by
    rw [cut_map, cut_ln (by omega), kl, show ((-1 : Int) + (xs.length - 2 * g : Nat)).toNat = xs.length - 2 * g - 1 by omega, k2]; rfl
  have e : res (.wi g) xs = lowF (g * lowV g xs + ((kept g xs).sum + g * highV g xs)) xs.length := by
    show lowF (_ + _ + _) _ = _
    rw [Int.add_assoc]
    rfl
  have hs := S_mean (n + 2) (List.replicate g (lowV g xs) ++ (kept g xs ++ List.replicate g (highV g xs))) (by simp; omega) (by simp; omega) w
  simp only [List.map_append, List.map_replicate, List.sum_append, rep_sum, List.length_append, List.length_replicate, kl, show g + (xs.length - 2 * g + g) = xs.length by omega] at hs
  have b1 : ∀ v : Int, binop .Mult (.own [.int v]) (.val (.int g)) = some (.own (List.replicate g (.int v))) := fun v => by
    rw [bin_rep (by omega) (by omega) (by simp; omega)]
    simp
  have b2 := bin_ov (xs := List.replicate g (.int (lowV g xs))) (ys := (kept g xs).map PyData.int) (by simp; omega)
  have b3 := bin_oo (xs := List.replicate g (.int (lowV g xs)) ++ (kept g xs).map PyData.int) (ys := List.replicate g (.int (highV g xs))) (by simp; omega)
  rw [List.append_assoc] at b3
  simp [rlD, Rl.nm, Rl.nb, cmp_eq_str, S_kept_values (n + 4) xs g (by omega), c1, c2, b1, b2, b3, hs, e]
theorem S_res_pa (n : Nat) (xs : List Int) (hr : (Rl.pa).ok xs.length) (h1 : xs.length ≤ 9) (hv : ∀ v ∈ xs, -1000000 ≤ v ∧ v ≤ 1000000) (w : Wd) : pg.TO (n + 6) "result_of" [rlD (Rl.pa), .list (xs.map .int)] w = .ok (.val (fr (res (Rl.pa) xs))) w := by
  rw [TO_result_of, show L2.defBody d_result_of.st = [_, _, _, _] from rfl]
  have hp := prs_ne (show 0 < xs.length from hr)
  have this := S_middle_of n (prs xs) 2 (fun t ht => by have := mem_prs (m := 1000000) hv ht; unfold sm; omega) (by omega) (by omega) hp (by have := prs_le h1; omega) w
  have e : res .pa xs = lowF (mid2 (prs xs)) (2 * 2) := rfl
  simp only [e]
  simp [rlD, Rl.nm, Rl.nb, cmp_eq_str, S_pair_means (n + 2) xs h1, this]
theorem S_res_gr (n : Nat) (b : Nat) (xs : List Int) (hr : (Rl.gr b).ok xs.length) (h1 : xs.length ≤ 9) (hv : ∀ v ∈ xs, -1000000 ≤ v ∧ v ≤ 1000000) (w : Wd) : pg.TO (n + 6) "result_of" [rlD (Rl.gr b), .list (xs.map .int)] w = .ok (.val (fr (res (Rl.gr b) xs))) w := by
  rw [TO_result_of, show L2.defBody d_result_of.st = [_, _, _, _] from rfl]
  obtain ⟨h2, h3, h4⟩ := hr
  have hb : b ≤ 9 := Nat.le_trans (Nat.le_of_dvd h3 (Nat.dvd_of_mod_eq_zero h4)) h1
  have hl : xs.length / b ≤ xs.length := Nat.div_le_self _ _
  have this := S_middle_of n (grp b xs) b (fun t ht => mem_grp hv h1 ht) (by omega) (by omega) (by rw [grp_len]; exact grp_ne h2 h3 h4) (by rw [grp_len]; omega) w
  have e : res (.gr b) xs = lowF (mid2 (grp b xs)) (2 * b) := by
    unfold res num den
    simp
  simp [rlD, Rl.nm, Rl.nb, cmp_eq_str, S_group_means (n + 1) xs b h1 h2 hb h4, this, e]
theorem S_result_of (n : Nat) (r : Rl) (xs : List Int) (hr : r.ok xs.length) (h1 : xs.length ≤ 9) (hv : ∀ v ∈ xs, -1000000 ≤ v ∧ v ≤ 1000000) (w : Wd) : pg.TO (n + 6) "result_of" [rlD r, .list (xs.map .int)] w = .ok (.val (fr (res r xs))) w := by
  cases r with
  | tr g => exact S_res_tr n g xs hr h1 hv w
  | wi g => exact S_res_wi n g xs hr h1 hv w
  | pa => exact S_res_pa n xs hr h1 hv w
  | gr b => exact S_res_gr n b xs hr h1 hv w

end Row

namespace Row
open PySem TM

theorem S_draw (n : Nat) (o : Orc) (l : Int) (h0 : 0 < l) (h1 : l < 1073741824) : pg.TO (n + 1) "_law_draw" [spc 1, .int l] (Wo o) = .ok (.val (.int (o 0 l))) (Wo (Orc.tl o)) := by
  rw [show pg.TO (n + 1) "_law_draw" [spc 1, .int l] (Wo o) = if (decide (0 < l) && divOk l) = true then R.ok (.val (.int (o 0 l))) (Wo (Orc.tl o)) else .bad from by kernel_rfl]
  rw [if_pos]
  unfold divOk
  simp
  omega

theorem S_law_pick {α : Type} (n : Nat) (f : α → D) (cs : List α) (d : α) (o : Orc) (h0 : 0 < cs.length) (h1 : cs.length < 1000) (ho : OkO o) : pg.TO (n + 2) "_law_pick" [spc 1, .list (cs.map f)] (Wo o) = .ok (.val (f (cs.getD (o 0 cs.length).toNat d))) (Wo (Orc.tl o)) := by
  rw [TO_law_pick, show L2.defBody d_law_pick.st = [_] from rfl]
  have hv := ho 0 cs.length (by omega)
  simp [S_draw n o cs.length (by omega) (by omega)]
  rw [at_map (d := d) (by omega) (by omega)]
  simp

theorem S_law_rules (n : Nat) (z : Nat) (h0 : 1 ≤ z) (h1 : z ≤ 9) (w : Wd) : pg.TO (n + 3) "_law_rules" [.int z] w = .ok (.own ((rulesL z).map rlD)) w := by
  have e : z = 1 ∨ z = 2 ∨ z = 3 ∨ z = 4 ∨ z = 5 ∨ z = 6 ∨ z = 7 ∨ z = 8 ∨ z = 9 := by omega
  rcases e with rfl | rfl | rfl | rfl | rfl | rfl | rfl | rfl | rfl <;> kernel_rfl

theorem S_law_low (n : Nat) (t b : Int) (h0 : 0 < b) (h1 : b < 1073741824) (w : Wd) : pg.TO (n + 1) "_law_low" [.int t, .int b] w = .ok (.val (fr (lowF t b))) w := by
  rw [TO_law_low, show L2.defBody d_law_low.st = [_, _, _] from rfl]
  simp
  rw [abs_if2, whl_gcd (mk := fun x y => [some (.val (.int t)), some (.val (.int b)), some (.val (.int x)), some (.val (.int y))]) (by intro x y; simp [cndF_eq]) (by intro x y h; simp [bdyF_eq, bin_mod h]) turns _ _ (by omega) (by omega) (by unfold turns; omega)]
  have e : Int.gcd t.natAbs b = Int.gcd t b := by simp [Int.gcd]
  simp [e, bin_div (gcd_ok (t := t) h0 h1)]
  rfl

theorem S_law_middle (n : Nat) (ts : List Int) (b : Int) (h0 : 0 < b) (h1 : b < 1000000) (hp : 0 < ts.length) (w : Wd) : pg.TO (n + 2) "_law_middle" [.list (ts.map .int), .int b] w = .ok (.val (fr (lowF (mid2 ts) (2 * b)))) w := by
  rw [TO_law_middle, show L2.defBody d_law_middle.st = [_, _, _] from rfl]
  obtain ⟨j1, e1, k1⟩ : ∃ j : Nat, j = (ts.length - 1) / 2 ∧ ((ts.length : Int) - 1).fdiv 2 = j := ⟨_, rfl, by rw [Int.fdiv_eq_ediv_of_nonneg _ (by omega)]; omega⟩
  obtain ⟨j2, e2, k2⟩ : ∃ j : Nat, j = ts.length / 2 ∧ (ts.length : Int).fdiv 2 = j := ⟨_, rfl, by rw [Int.fdiv_eq_ediv_of_nonneg _ (by omega)]; omega⟩
  have em : mid2 ts = itm (srt ts) j1 + itm (srt ts) j2 := by unfold mid2 itm; rw [e1, e2]
  have a1 := at_nat (f := PyData.int) (xs := srt ts) (i := j1) (by simp; omega)
  have a2 := at_nat (f := PyData.int) (xs := srt ts) (i := j2) (by simp; omega)
  simp [bin_div (j := 2) rfl, k1, k2, a1, a2, em, bin_mul (i := 2) (mul_sm (by unfold sm; omega)), S_law_low n _ (2 * b) (by omega) (by omega)]

theorem S_law_res_tr (n : Nat) (g : Nat) (xs : List Int) (hr : 2 * g < xs.length) (h1 : xs.length ≤ 1000) (w : Wd) : pg.TO (n + 3) "_law_result" [rlD (.tr g), .list (xs.map .int)] w = .ok (.val (fr (res (.tr g) xs))) w := by
  rw [TO_law_result, show L2.defBody d_law_result.st = [_, _, _, _, _, _, _] from rfl]
  have e : res (.tr g) xs = lowF (kept g xs).sum ((xs.length : Int) - 2 * g) := by
    show lowF _ ((xs.length - 2 * g : Nat) : Int) = _
    rw [show ((xs.length - 2 * g : Nat) : Int) = (xs.length : Int) - 2 * g by omega]
    rfl
  have c1 : cut ((srt xs).map PyData.int) (some (g : Int)) (some ((xs.length : Int) - g)) = (kept g xs).map .int := by
    rw [cut_map, cut_lh (by omega) (by omega)]
    unfold kept
    congr 2
    omega
  simp [rlD, Rl.nm, Rl.nb, cmp_eq_str, c1, e, bin_mul (i := 2) (mul_sm (by unfold sm; omega)), S_law_low (n + 1) _ _ (show 0 < (xs.length : Int) - 2 * g by omega) (by omega)]
theorem S_law_res_wi (n : Nat) (g : Nat) (xs : List Int) (hr : 2 * g < xs.length) (h1 : xs.length ≤ 1000) (w : Wd) : pg.TO (n + 3) "_law_result" [rlD (.wi g), .list (xs.map .int)] w = .ok (.val (fr (res (.wi g) xs))) w := by
  rw [TO_law_result, show L2.defBody d_law_result.st = [_, _, _, _, _, _, _] from rfl]
  have e : res (.wi g) xs = lowF (xs.map (clamp (lowV g xs) (highV g xs))).sum xs.length := by rw [clamp_sum hr]; rfl
  have a1 : L2.atI ((srt xs).map PyData.int) (g : Int) = some (.int (lowV g xs)) := at_nat (by simp; omega)
  have a2 : L2.atI ((srt xs).map PyData.int) ((xs.length : Int) - 1 - g) = some (.int (highV g xs)) := by
    rw [show (xs.length : Int) - 1 - g = ((xs.length - 1 - g : Nat) : Int) by omega]
    exact at_nat (by simp; omega)
  have hc : xs.length ≤ 100000 := by omega
  simp [rlD, Rl.nm, Rl.nb, cmp_eq_str, a1, a2, compW_eq]
  rw [compL_map (h := fun v => .int (clamp (lowV g xs) (highV g xs) v))]
  · have hs := bl_sum_o (xs := xs.map (clamp (lowV g xs) (highV g xs)))
    rw [List.map_map] at hs
    simp only [Function.comp_def] at hs
    simp [hc, hs, S_law_low (n + 1) _ _ (show 0 < (xs.length : Int) by omega) (by omega), e]
  · intro v hv
    simp [eltW_eq, clamp]
theorem S_law_res_gr (n : Nat) (b : Nat) (xs : List Int) (hr : (Rl.gr b).ok xs.length) (h1 : xs.length ≤ 1000) (w : Wd) : pg.TO (n + 3) "_law_result" [rlD (.gr b), .list (xs.map .int)] w = .ok (.val (fr (res (.gr b) xs))) w := by
  rw [TO_law_result, show L2.defBody d_law_result.st = [_, _, _, _, _, _, _] from rfl]
  obtain ⟨h2, h3, h4⟩ := hr
  have hb : b ≤ 1000 := Nat.le_trans (Nat.le_of_dvd h3 (Nat.dvd_of_mod_eq_zero h4)) h1
  have hm : xs.length = xs.length / b * b := by have := Nat.div_add_mod xs.length b; rw [Nat.mul_comm]; omega
  have hr : rangeA [.val (.int 0), .val (.int (xs.length : Int)), .val (.int (b : Int))] = some ((List.range (xs.length / b)).map fun (i : Nat) => .int (((i * b : Nat) : Int))) := by
    rw [show (xs.length : Int) = ((xs.length / b * b : Nat) : Int) by rw [← hm]]
    exact rangeA3 h2 (by omega) (by omega)
  have e : res (.gr b) xs = lowF (mid2 (grp b xs)) (2 * b) := by
    show lowF _ ((2 * b : Nat) : Int) = _
    simp
    rfl
  simp [rlD, Rl.nm, Rl.nb, cmp_eq_str, compW_eq, hr]
  rw [compL_map (h := fun i => .int ((xs.drop (i * b)).take b).sum)]
  · have : xs.length / b ≤ xs.length := Nat.div_le_self _ _
    have : xs.length / b ≤ 100000 := by omega
    have hs := S_law_middle n (grp b xs) b (by omega) (by omega) (by rw [grp_len]; exact grp_ne h2 h3 h4) w
    have eg : (grp b xs).map PyData.int = (List.range (xs.length / b)).map fun i => .int ((xs.drop (i * b)).take b).sum := by
      unfold grp
      rw [List.map_map]
      rfl
    rw [eg] at hs
    simp [this, hs, e]
  · intro i hi
    have hc : cut (xs.map PyData.int) (some ((i * b : Nat) : Int)) (some (((i * b : Nat) : Int) + (b : Int))) = ((xs.drop (i * b)).take b).map .int := by
      rw [cut_map, cut_lh (by omega) (by omega)]
      congr 2
      omega
    simp only [Int.natCast_mul] at hc
    simp [eltW_eq, hc, ← List.map_drop, ← List.map_take, -List.map_drop, -List.map_take]
theorem S_law_res_pa (n : Nat) (xs : List Int) (hr : 0 < xs.length) (h1 : xs.length ≤ 9) (w : Wd) : pg.TO (n + 3) "_law_result" [rlD .pa, .list (xs.map .int)] w = .ok (.val (fr (res .pa xs))) w := by
  rw [TO_law_result, show L2.defBody d_law_result.st = [_, _, _, _, _, _, _] from rfl]
  have e : res .pa xs = lowF (mid2 (prs xs)) (2 * 2) := rfl
  have hs := S_law_middle n (prs xs) 2 (by omega) (by omega) (prs_ne hr) w
  rw [← e] at hs
  simp [rlD, Rl.nm, Rl.nb, cmp_eq_str, rangeA1 (b := xs.length) (by omega) (by omega)]
  generalize hm : forL _ _ _ _ = m
  obtain ⟨s', w', rfl, rfl, s0, s2, s3, s4, s5, s7, s8, s9, s10, s11, rfl⟩ := forL_map hm (fun pre s w' => w' = w ∧ ∃ s0 s2 s3 s4 s5 s7 s8 s9 s10 s11, s = [s0, some (.val (.list (xs.map .int))), s2, s3, s4, s5, some (.val (.list ((pre.flatMap (prow xs)).map .int))), s7, s8, s9, s10, s11]) ⟨rfl, _, _, _, _, _, _, _, _, _, _, rfl⟩ (by
    rintro pre t post s w' e ⟨rfl, s0, s2, s3, s4, s5, s7, s8, s9, s10, s11, rfl⟩ P hP
    have ht : t < xs.length := List.mem_range.mp (by rw [e]; simp)
    have hl := pre_len h1 e
    have hx := prow_len xs t
    have hb : (prow xs t).length ≤ 100000 := by omega
    simp [loopF_eq, compW_eq, cut_l]
    rw [← List.map_drop, compL_map (h := fun u => .int (itm xs t + u)), show (xs.drop t).map (fun u => PyData.int (itm xs t + u)) = (prow xs t).map .int by simp [prow, Function.comp_def]]
    · have b1 := bin_vo (xs := (pre.flatMap (prow xs)).map PyData.int) (ys := (prow xs t).map PyData.int) (by simp only [List.length_map]; omega)
      simp [hb, b1]
      exact hP _ _ ⟨rfl, _, _, _, _, _, _, _, _, _, _, (by simp only [List.flatMap_append, List.flatMap_cons, List.flatMap_nil, List.append_nil, List.map_append]; rfl)⟩
    · intro u hu
      simp [eltW_eq, at_nat ht])
  have ep : xs.length = (List.range xs.length).length := by simp
  simp [show (List.range xs.length).flatMap (prow xs) = prs xs from by rw [prs_range]; rfl, hs]
theorem S_law_result (n : Nat) (r : Rl) (xs : List Int) (hr : r.ok xs.length) (h1 : xs.length ≤ 9) (w : Wd) : pg.TO (n + 3) "_law_result" [rlD r, .list (xs.map .int)] w = .ok (.val (fr (res r xs))) w := by
  cases r with
  | tr g => exact S_law_res_tr n g xs hr (by omega) w
  | wi g => exact S_law_res_wi n g xs hr (by omega) w
  | pa => exact S_law_res_pa n xs hr h1 w
  | gr b => exact S_law_res_gr n b xs hr (by omega) w
end Row

namespace Row
open PySem TM

theorem S_start (n : Nat) (o : Orc) : pg.TO (n + 1) "_law_start" [spc 0] [.orc o] = .ok (.val (spc 1)) (Wo o) := by kernel_rfl

end Row

namespace Row
open PySem TM

theorem S_is_fraction (n : Nat) (p : Int × Int) (h : isFr p) (w : Wd) : pg.TO (n + 2) "is_fraction" [fr p] w = .ok (.val (.bool true)) w := by
  rw [TO_is_fraction, show L2.defBody d_is_fraction.st = [_, _] from rfl]
  obtain ⟨h1, h2, h3, h4, h5⟩ := h
  simp [fr, S_is_int, h1, h2, h3, h4, S_common n p.1 p.2 (by omega), h5]

theorem S_check_told (n : Nat) (r : Rl) (z m : Nat) (p : Int × Int) (hr : r.ok z) (h1 : 1 ≤ z) (h5 : z ≤ 5) (hm : m ≤ 3) (h : isFr p) (w : Wd) : pg.TO (n + 4) "check_told" [rlD r, .int z, .int m, fr p] w = .ok (.val .none) w := by
  rw [TO_check_told, show L2.defBody d_check_told.st = [_, _, _, _] from rfl]
  have a1 : (1 : Int) ≤ z := by omega
  have a2 : (z : Int) ≤ 5 := by omega
  have a3 : (m : Int) ≤ 3 := by omega
  simp [S_is_int, a1, a2, a3, S_check_rule n r z hr (by omega), S_is_fraction (n + 1) p h]

theorem S_all_lists (n : Nat) (z m : Nat) (hz : z ≤ 5) (hm : m ≤ 3) (w : Wd) : pg.TO (n + 1) "all_lists" [.int z, .int m] w = .ok (.val (.list ((allL z m).map lD))) w := by
  rw [TO_all_lists, show L2.defBody d_all_lists.st = [_, _, _] from rfl]
  simp [rangeA1 (b := z) (by omega) (by omega)]
  generalize hmm : forL _ _ _ _ = mm
  obtain ⟨s', w', rfl, rfl, x, y, u, v, rfl⟩ := forL_map hmm (fun pre s w' => w' = w ∧ ∃ x y u v, s = [some (.val (.int z)), some (.val (.int m)), some (.val (.list ((allL pre.length m).map lD))), x, y, u, v]) ⟨rfl, _, _, _, _, rfl⟩ (by
    rintro pre t post s w' e ⟨rfl, x, y, u, v, rfl⟩ P hP
    have hl : pre.length < z := by
      have := congrArg List.length e
      simp at this
      omega
    generalize hk : pre.length = k at hl
    have hb := allL_len4 (n := k + 1) (m := m) (by omega) hm
    simp [loopF_eq]
    generalize hm2 : forL _ _ _ _ = m2
    obtain ⟨s', w2, rfl, rfl, x2, y2, rfl⟩ := forL_map hm2 (fun pre2 s w2 => w2 = w' ∧ ∃ x2 y2, s = [some (.val (.int z)), some (.val (.int m)), some (.val (.list ((allL k m).map lD))), some (.val (.int t)), some (.own ((pre2.flatMap (ext1 m)).map lD)), x2, y2]) ⟨rfl, _, _, rfl⟩ (by
      rintro pre2 row post2 s w2 e2 ⟨rfl, x2, y2, rfl⟩ P2 hP2
      have hin : row ∈ allL k m := by rw [e2]; exact List.mem_append_right _ List.mem_cons_self
      have r1 : row.length = k := (allL_mem hin).1
      have hpl : (pre2.flatMap (ext1 m)).length + (m + 1) ≤ 1024 := by
        have e3 : (allL (k + 1) m).length = ((pre2 ++ row :: post2).flatMap (ext1 m)).length := by rw [allL, e2]
        rw [e3] at hb
        simp only [List.flatMap_append, List.flatMap_cons, List.length_append, ext1_len] at hb
        omega
      simp [loopF_eq, compW_eq, rangeA1 (b := (m : Int) + 1) (by omega) (by omega)]
      rw [compL_map (h := fun (v : Nat) => lD (row ++ [(v : Int)])), show (List.range (m + 1)).map (fun (v : Nat) => lD (row ++ [(v : Int)])) = (ext1 m row).map lD by simp [ext1, Function.comp_def]]
      · have hx : (ext1 m row).length ≤ 100000 := by rw [ext1_len]; omega
        simp [hx]
        rw [aug_oo (by simp only [List.length_map, ext1_len]; omega)]
        simp
        exact hP2 _ _ ⟨rfl, _, _, by simp only [List.flatMap_append, List.flatMap_cons, List.flatMap_nil, List.append_nil, List.map_append]; rfl⟩
      · intro v hv
        simp [eltW_eq, lD]
        rw [bin_vo (by simp only [List.length_map, List.length_cons, List.length_nil]; omega)]
        simp)
    simp
    exact hP _ _ ⟨rfl, _, _, _, _, by simp only [List.length_append, List.length_cons, List.length_nil, hk]; rfl⟩)
  simp

theorem S_fitting (n : Nat) (r : Rl) (z m : Nat) (p : Int × Int) (hr : r.ok z) (h1 : 1 ≤ z) (h5 : z ≤ 5) (hm : m ≤ 3) (w : Wd) : pg.TO (n + 7) "fitting" [rlD r, .int z, .int m, fr p] w = .ok (.own ((fitL r z m p).map lD)) w := by
  rw [TO_fitting, show L2.defBody d_fitting.st = [_] from rfl]
  simp [S_all_lists (n + 5) z m h5 hm, compW_eq]
  rw [compL_mapF (c := fun row => decide (res r row = p)) (h := lD)]
  · have := fitL_len (r := r) (p := p) h5 hm
    unfold fitL at this ⊢
    simp [show ((allL z m).filter fun row => decide (res r row = p)).length ≤ 100000 by omega]
  · intro row hrow
    obtain ⟨r1, r2⟩ := allL_mem hrow
    simp [eltW_eq, lD, S_result_of n r row (by rw [r1]; exact hr) (by omega) (fun v hv => by have := r2 v hv; omega)]
    split <;> simp [*]

theorem S_data_with (n : Nat) (r : Rl) (z m : Nat) (p : Int × Int) (hr : r.ok z) (h1 : 1 ≤ z) (h5 : z ≤ 5) (hm : m ≤ 3) (h : isFr p) (w : Wd) : pg.TO (n + 8) "data_with" [rlD r, .int z, .int m, fr p] w = .ok (.own ((fitL r z m p).map lD)) w := by
  rw [TO_data_with, show L2.defBody d_data_with.st = [_, _] from rfl]
  simp [S_check_told (n + 3) r z m p hr h1 h5 hm h, S_fitting n r z m p hr h1 h5 hm]

theorem S_count_with (n : Nat) (r : Rl) (z m : Nat) (p : Int × Int) (hr : r.ok z) (h1 : 1 ≤ z) (h5 : z ≤ 5) (hm : m ≤ 3) (h : isFr p) (w : Wd) : pg.TO (n + 8) "count_with" [rlD r, .int z, .int m, fr p] w = .ok (.val (.int (fitL r z m p).length)) w := by
  rw [TO_count_with, show L2.defBody d_count_with.st = [_, _] from rfl]
  simp [S_check_told (n + 3) r z m p hr h1 h5 hm h, S_fitting n r z m p hr h1 h5 hm]

theorem S_first_with (n : Nat) (r : Rl) (z m : Nat) (p : Int × Int) (hr : r.ok z) (h1 : 1 ≤ z) (h5 : z ≤ 5) (hm : m ≤ 3) (h : isFr p) (w : Wd) : pg.TO (n + 8) "first_with" [rlD r, .int z, .int m, fr p] w = match fitL r z m p with
    | [] => .exc "NotFound" w
    | row :: _ => .ok (.val (lD row)) w := by
  rw [TO_first_with, show L2.defBody d_first_with.st = [_, _, _, _] from rfl]
  simp [S_check_told (n + 3) r z m p hr h1 h5 hm h, S_fitting n r z m p hr h1 h5 hm]
  cases fitL r z m p with
  | nil => simp
  | cons row rest =>
    have hne : cmpop .Eq (.val (.list (lD row :: rest.map lD))) (.own []) = some false := cmp_eq_nil
    simp [hne]

theorem S_data_at (n : Nat) (r : Rl) (z m : Nat) (p : Int × Int) (k : Nat) (hr : r.ok z) (h1 : 1 ≤ z) (h5 : z ≤ 5) (hm : m ≤ 3) (h : isFr p) (w : Wd) : pg.TO (n + 8) "data_at" [rlD r, .int z, .int m, fr p, .int k] w = match (fitL r z m p)[k]? with
    | none => .exc "BadNumber" w
    | some row => .ok (.val (lD row)) w := by
  rw [TO_data_at, show L2.defBody d_data_at.st = [_, _, _, _] from rfl]
  simp [S_check_told (n + 3) r z m p hr h1 h5 hm h, S_fitting n r z m p hr h1 h5 hm, S_is_int]
  have hlen := fitL_len (r := r) (p := p) h5 hm
  by_cases hk : k < (fitL r z m p).length
  · have h2 : (k : Int) ≤ (fitL r z m p).length - 1 := by omega
    rw [List.getElem?_eq_getElem hk]
    rw [if_neg (by omega)]
    simp [at_lst hk]
    rfl
  · have h2 : ¬ (k : Int) ≤ (fitL r z m p).length - 1 := by omega
    rw [List.getElem?_eq_none (by omega)]
    simp [h2]
end Row

namespace Row
open PySem TM

theorem exs_step {f : Stmt → Sl → Wd → R Out} {a : Stmt} {r : List Stmt} {s s' : Sl} {w w' : Wd} (h : f a s w = .ok (.nxt s') w') : TM.execs f (a :: r) s w = TM.execs f r s' w' := by
  show (f a s w).bind _ = _
  rw [h]
  rfl
theorem er_num (n : Nat) (w : Wd) : pg.TO (n + 1) "_law_error" [exd "BadNumber"] w = .ok (.val (.str "number")) w := by kernel_rfl
theorem er_none (n : Nat) (w : Wd) : pg.TO (n + 1) "_law_error" [exd "NotFound"] w = .ok (.val (.str "none")) w := by kernel_rfl
theorem C_first (n : Nat) (r : Rl) (z m : Nat) (p : Int × Int) (hr : r.ok z) (h1 : 1 ≤ z) (h5 : z ≤ 5) (hm : m ≤ 3) (h : isFr p) (w : Wd) : pg.TO (n + 9) "_law_call" [rlD r, .int z, .int m, fr p, .none] w = .ok (.val (match fitL r z m p with
    | [] => .str "none"
    | row :: _ => lD row)) w := by
  rw [TO_law_call, show L2.defBody d_law_call.st = [_, _, _, _] from rfl]
  have e := S_first_with n r z m p hr h1 h5 hm h w
  cases hf : fitL r z m p with
  | nil =>
    rw [hf] at e
    simp [e, er_none]
  | cons row rest =>
    rw [hf] at e
    simp [e]
theorem C_rank (n : Nat) (r : Rl) (z m k : Nat) (p : Int × Int) (hr : r.ok z) (h1 : 1 ≤ z) (h5 : z ≤ 5) (hm : m ≤ 3) (h : isFr p) (w : Wd) : pg.TO (n + 9) "_law_call" [rlD r, .int z, .int m, fr p, .int k] w = .ok (.val (match (fitL r z m p)[k]? with
    | none => .str "number"
    | some row => lD row)) w := by
  rw [TO_law_call, show L2.defBody d_law_call.st = [_, _, _, _] from rfl]
  have e := S_data_at n r z m p k hr h1 h5 hm h w
  have hi : isOp (.val (.int (k : Int))) (.val .none) = some false := rfl
  cases hf : (fitL r z m p)[k]? with
  | none =>
    rw [hf] at e
    simp [e, er_num, hi]
  | some row =>
    rw [hf] at e
    simp [e, hi]
def sq (i : Nat) : Stmt := (L2.defBody d_law.st).getD i (.Pass ⟨0, 0, 0, 0⟩)
def bq (i j : Nat) : Stmt := match sq i with
  | .For _ _ b _ _ => b.getD j (.Pass ⟨0, 0, 0, 0⟩)
  | _ => .Pass ⟨0, 0, 0, 0⟩
/-- the slots -/
def sl (sz mo ro k ru to go ra kn rw lr ow va : Option RV) : Sl := [some (.val (spc 0)), some (.val (spc 1)), sz, mo, ro, k, ru, to, go, ra, kn, rw, lr, ow, va]
abbrev vI (i : Int) : Option RV := some (.val (.int i))
abbrev vR (l : List (List Int)) : Option RV := some (.val (.list (l.map lD)))
theorem exs_nil {f : Stmt → Sl → Wd → R Out} {s : Sl} {w : Wd} : TM.execs f [] s w = .ok (.nxt s) w := rfl
def nbB (o : Option RV) : Bool := match o with
  | some (.bor _) => false
  | _ => true
theorem noDct_eq {s : Sl} : noDct s = s.all nbB := rfl
@[simp] theorem nbB_v {d : D} : nbB (some (.val d)) = true := rfl
@[simp] theorem nbB_n : nbB none = true := rfl
section
variable (n : Nat) (z m : Nat) (h1 : 1 ≤ z) (h4 : z ≤ 4) (hm : m ≤ 2)
include h1 h4 hm
theorem q_4 (w : Wd) : ∃ k rw lr, (nbB k = true ∧ nbB rw = true ∧ nbB lr = true) ∧ ex 12 (Gn (n + 11) d_law) (sq 4) (sl (vI z) (vI m) (vR [[]]) none none none none none none none none none none) w = .ok (.nxt (sl (vI z) (vI m) (vR (allL z m)) k none none none none none rw lr none none)) w := by
  rw [show sq 4 = Stmt.For _ (.Call (.Name "range" _) [.Name "size" _] [] _) [_, _, _] [] _ from rfl]
  unfold sl
  simp [rangeA1 (b := z) (by omega) (by omega)]
  generalize hmm : forL _ _ _ _ = mm
  obtain ⟨s', w', rfl, rfl, x, y, u, hnb, rfl⟩ := forL_map hmm (fun pre s w' => w' = w ∧ ∃ x y u, (nbB x = true ∧ nbB y = true ∧ nbB u = true) ∧ s = sl (vI z) (vI m) (vR (allL pre.length m)) x none none none none none y u none none) ⟨rfl, none, none, none, ⟨rfl, rfl, rfl⟩, rfl⟩ (by
    rintro pre t post s w' e ⟨rfl, x, y, u, hnb, rfl⟩ P hP
    have hl : pre.length < z := by
      have := congrArg List.length e
      simp at this
      omega
    generalize hk : pre.length = k at hl
    have hb := allL_len4 (n := k + 1) (m := m) (by omega) (by omega)
    unfold sl
    simp [loopF_eq]
    generalize hm2 : forL _ _ _ _ = m2
    obtain ⟨s', w2, rfl, rfl, x2, hn2, rfl⟩ := forL_map hm2 (fun pre2 s w2 => w2 = w' ∧ ∃ x2, nbB x2 = true ∧ s = sl (vI z) (vI m) (vR (allL k m)) (vI t) none none none none none x2 (vR (pre2.flatMap (ext1 m))) none none) ⟨rfl, y, hnb.2.1, rfl⟩ (by
      rintro pre2 row post2 s w2 e2 ⟨rfl, x2, hn2, rfl⟩ P2 hP2
      have hin : row ∈ allL k m := by rw [e2]; exact List.mem_append_right _ List.mem_cons_self
      have r1 : row.length = k := (allL_mem hin).1
      have hpl : (pre2.flatMap (ext1 m)).length + (m + 1) ≤ 1024 := by
        have e3 : (allL (k + 1) m).length = ((pre2 ++ row :: post2).flatMap (ext1 m)).length := by rw [allL, e2]
        rw [e3] at hb
        simp only [List.flatMap_append, List.flatMap_cons, List.length_append, ext1_len] at hb
        omega
      unfold sl
      simp [loopF_eq, compW_eq, rangeA1 (b := (m : Int) + 1) (by omega) (by omega)]
      rw [compL_map (h := fun (v : Nat) => lD (row ++ [(v : Int)])), show (List.range (m + 1)).map (fun (v : Nat) => lD (row ++ [(v : Int)])) = (ext1 m row).map lD by simp [ext1, Function.comp_def]]
      · have hx : (ext1 m row).length ≤ 100000 := by rw [ext1_len]; omega
        have hbo : binop .Add (.val (.list ((pre2.flatMap (ext1 m)).map lD))) (.own ((ext1 m row).map lD)) = some (.own (((pre2 ++ [row]).flatMap (ext1 m)).map lD)) := by
          rw [bin_vo (by simp only [List.length_map, ext1_len]; omega)]
          simp
        simp [hx, hbo]
        refine hP2 _ _ ⟨rfl, some (.val (lD row)), rfl, ?_⟩
        simp [sl]
      · intro v hv
        simp [eltW_eq, lD]
        rw [bin_vo (by simp only [List.length_map, List.length_cons, List.length_nil]; omega)]
        simp)
    unfold sl
    simp
    exact hP _ _ ⟨rfl, _, _, _, ⟨rfl, hn2, rfl⟩, by simp only [List.length_append, List.length_cons, List.length_nil, hk]; rfl⟩)
  exact ⟨x, y, u, hnb, by unfold sl; simp⟩
theorem q_5 (o : Orc) (ho : OkO o) (k rw lr : Option RV) : ∃ r o', r.ok z ∧ OkO o' ∧ ex 12 (Gn (n + 11) d_law) (sq 5) (sl (vI z) (vI m) (vR (allL z m)) k none none none none none rw lr none none) (Wo o) = .ok (.nxt (sl (vI z) (vI m) (vR (allL z m)) k (some (.val (rlD r))) none none none none rw lr none none)) (Wo o') := by
  have hl0 := rulesL_len z (by omega)
  have hl1 := rulesL_pos z
  have p1 := S_law_pick (n + 9) rlD (rulesL z) .pa o (by omega) (by omega) ho
  have hrm : (rulesL z).getD (o 0 (rulesL z).length).toNat .pa ∈ rulesL z := getD_in (by have := ho 0 (rulesL z).length (by omega); omega)
  refine ⟨_, o.tl, rulesL_ok (by omega) hrm h1, okO_tl ho, ?_⟩
  rw [show sq 5 = Stmt.Assign _ _ _ from rfl]
  unfold sl
  simp [S_law_rules (n + 8) z h1 (by omega), p1]
theorem q_6 (o : Orc) (ho : OkO o) (r : Rl) (hr : r.ok z) (k rw lr : Option RV) : ∃ p o', isFr p ∧ OkO o' ∧ ex 12 (Gn (n + 11) d_law) (sq 6) (sl (vI z) (vI m) (vR (allL z m)) k (some (.val (rlD r))) none none none none rw lr none none) (Wo o) = .ok (.nxt (sl (vI z) (vI m) (vR (allL z m)) k (some (.val (rlD r))) (some (.val (fr p))) none none none rw lr none none)) (Wo o') := by
  have hl0 := allL_len4 (n := z) (m := m) (by omega) (by omega)
  have hl1 : 0 < (allL z m).length := by rw [allL_len]; exact Nat.pow_pos (by omega)
  have hlx : (allL z m).length < 1000 := by
    rw [allL_len]
    calc (m + 1) ^ z ≤ 3 ^ z := Nat.pow_le_pow_left (by omega) z
      _ ≤ 3 ^ 4 := Nat.pow_le_pow_right (by omega) h4
      _ < 1000 := by decide
  have p1 := S_law_pick (n + 9) lD (allL z m) [] o hl1 hlx ho
  have hrm : (allL z m).getD (o 0 (allL z m).length).toNat [] ∈ allL z m := getD_in (by have := ho 0 (allL z m).length (by omega); omega)
  generalize (allL z m).getD (o 0 (allL z m).length).toNat [] = row at p1 hrm
  have hx := allL_ok hrm h1 (by omega) (by omega)
  have hrl := (allL_mem hrm).1
  have hr' : r.ok row.length := by rw [hrl]; exact hr
  refine ⟨_, o.tl, isFr_res hr' hx, okO_tl ho, ?_⟩
  rw [show sq 6 = Stmt.Assign _ _ _ from rfl]
  unfold sl
  have e := S_law_result (n + 8) r row hr' hx.b (Wo o.tl)
  have p1 : pg.TO (n + 11) "_law_pick" [spc 1, .list ((allL z m).map lD)] (Wo o) = .ok (.val (.list (row.map .int))) (Wo o.tl) := p1
  simp [p1, e]
theorem q_7 (o : Orc) (ho : OkO o) (p : Int × Int) (hp : isFr p) (ru k rw lr : Option RV) : ∃ p' o', isFr p' ∧ OkO o' ∧ ex 12 (Gn (n + 11) d_law) (sq 7) (sl (vI z) (vI m) (vR (allL z m)) k ru (some (.val (fr p))) none none none rw lr none none) (Wo o) = .ok (.nxt (sl (vI z) (vI m) (vR (allL z m)) k ru (some (.val (fr p'))) none none none rw lr none none)) (Wo o') := by
  have d1 := S_draw (n + 10) o 5 (by omega) (by omega)
  have ho1 := okO_tl ho
  have d2 := S_draw (n + 10) o.tl 20 (by omega) (by omega)
  have b2 := ho1 0 20 (by omega)
  have ho2 := okO_tl ho1
  have d3 := S_draw (n + 10) o.tl.tl 7 (by omega) (by omega)
  have b3 := ho2 0 7 (by omega)
  have ho3 := okO_tl ho2
  by_cases h : o 0 5 = 0
  · have e := S_law_low (n + 10) (o.tl 0 20) (1 + o.tl.tl 0 7) (by omega) (by omega) (Wo o.tl.tl.tl)
    refine ⟨lowF (o.tl 0 20) (1 + o.tl.tl 0 7), o.tl.tl.tl, isFr_low (by omega) (by omega) (by omega), ho3, ?_⟩
    rw [show sq 7 = Stmt.If _ _ _ _ from rfl]
    unfold sl
    simp [d1, h, d2, d3, e]
  · refine ⟨p, o.tl, hp, ho1, ?_⟩
    rw [show sq 7 = Stmt.If _ _ _ _ from rfl]
    unfold sl
    simp [d1, h]
end
section
variable (n : Nat) (z m : Nat) (h1 : 1 ≤ z) (h4 : z ≤ 4) (hm : m ≤ 2) (r : Rl) (hr : r.ok z) (p : Int × Int) (hp : isFr p) (k rw lr : Option RV) (w : Wd)
include h1 h4 hm hr
theorem e_res (row : List Int) (hin : row ∈ allL z m) : pg.TO (n + 11) "_law_result" [rlD r, .list (row.map .int)] w = .ok (.val (fr (res r row))) w := by
  have hx := allL_ok hin h1 (by omega) (by omega)
  exact S_law_result (n + 8) r row (by rw [(allL_mem hin).1]; exact hr) hx.b w
theorem q_8 : ex 12 (Gn (n + 11) d_law) (sq 8) (sl (vI z) (vI m) (vR (allL z m)) k (some (.val (rlD r))) (some (.val (fr p))) none none none rw lr none none) w = .ok (.nxt (sl (vI z) (vI m) (vR (allL z m)) k (some (.val (rlD r))) (some (.val (fr p))) (vR (fitL r z m p)) none none rw lr none none)) w := by
  rw [show sq 8 = Stmt.Assign _ _ _ from rfl]
  unfold sl
  simp [compW_eq]
  rw [compL_mapF (c := fun row => decide (res r row = p)) (h := lD)]
  · have := fitL_len (r := r) (p := p) (n := z) (m := m) (by omega) (by omega)
    unfold fitL at this ⊢
    simp [show ((allL z m).filter fun row => decide (res r row = p)).length ≤ 100000 by omega]
  · intro row hrow
    have e := e_res n z m h1 h4 hm r hr w row hrow
    simp [eltW_eq, lD, e]
    split <;> simp [*]
include hp
theorem q_9 : ex 12 (Gn (n + 11) d_law) (sq 9) (sl (vI z) (vI m) (vR (allL z m)) k (some (.val (rlD r))) (some (.val (fr p))) (vR (fitL r z m p)) none none rw lr none none) w = .ok (.nxt (sl (vI z) (vI m) (vR (allL z m)) k (some (.val (rlD r))) (some (.val (fr p))) (vR (fitL r z m p)) none none rw lr none none)) w := by
  rw [show sq 9 = Stmt.If _ _ _ _ from rfl]
  unfold sl
  have ok : okD 8 (.list ((fitL r z m p).map lD)) = true := okD_map fun _ => okD_lD
  simp [S_data_with (n + 3) r z m p hr h1 (by omega) (by omega) hp, S_count_with (n + 3) r z m p hr h1 (by omega) (by omega) hp, cmp_ne_ol ok]
theorem q_10 : ex 12 (Gn (n + 11) d_law) (sq 10) (sl (vI z) (vI m) (vR (allL z m)) k (some (.val (rlD r))) (some (.val (fr p))) (vR (fitL r z m p)) none none rw lr none none) w = .ok (.nxt (sl (vI z) (vI m) (vR (allL z m)) k (some (.val (rlD r))) (some (.val (fr p))) (vR (fitL r z m p)) none none rw lr none none)) w := by
  rw [show sq 10 = Stmt.If _ _ _ _ from rfl]
  unfold sl
  have e := C_first (n + 2) r z m p hr h1 (by omega) (by omega) hp w
  cases hf : fitL r z m p with
  | nil =>
    rw [hf] at e
    have c1 : cmpop .NotEq (.val (.list [])) (.own []) = some false := by kernel_rfl
    have c2 : cmpop .NotEq (.val (.str "none")) (.val (.str "none")) = some false := by kernel_rfl
    simp [e, c1, c2]
  | cons row rest =>
    rw [hf] at e
    have ok : okD 8 (.list (lD row :: rest.map lD)) = true := by
      rw [← List.map_cons]
      exact okD_map fun _ => okD_lD
    have c1 : cmpop .NotEq (.val (.list (lD row :: rest.map lD))) (.own []) = some true := by
      show (if (okD 8 (.list (lD row :: rest.map lD)) && okD 8 (.list [])) = true then some (!PyData.eqv (.list (lD row :: rest.map lD)) (.list [])) else none) = _
      rw [ok]
      rfl
    have c2 : cmpop .NotEq (.val (lD row)) (.val (lD row)) = some false := cmp_nself okD_lD
    simp [e, c1, c2]
theorem q_12 (i : Nat) : ex 12 (Gn (n + 11) d_law) (sq 12) (sl (vI z) (vI m) (vR (allL z m)) k (some (.val (rlD r))) (some (.val (fr p))) (vR (fitL r z m p)) (vI i) none rw lr none none) w = .ok (.nxt (sl (vI z) (vI m) (vR (allL z m)) k (some (.val (rlD r))) (some (.val (fr p))) (vR (fitL r z m p)) (vI i) none rw lr none none)) w := by
  rw [show sq 12 = Stmt.If _ _ _ _ from rfl]
  unfold sl
  have e := C_rank (n + 2) r z m i p hr h1 (by omega) (by omega) hp w
  by_cases hk : i < (fitL r z m p).length
  · rw [List.getElem?_eq_getElem hk] at e
    have c2 : cmpop .NotEq (.val (lD (fitL r z m p)[i])) (.val (lD (fitL r z m p)[i])) = some false := cmp_nself okD_lD
    have ha := at_lst hk
    have ha : L2.atI ((fitL r z m p).map lD) (i : Int) = some (lD (fitL r z m p)[i]) := ha
    simp [e, hk, c2, ha]
  · rw [List.getElem?_eq_none (by omega)] at e
    have c2 : cmpop .NotEq (.val (.str "number")) (.val (.str "number")) = some false := by kernel_rfl
    simp [e, hk, c2]
end
section
variable (n : Nat) (z m : Nat) (h1 : 1 ≤ z) (h4 : z ≤ 4) (hm : m ≤ 2) (r : Rl) (hr : r.ok z) (ru to go ra k rw lr : Option RV) (w : Wd)
theorem q_11 (o : Orc) (ho : OkO o) (l : List (List Int)) (hl : l.length ≤ 1024) : ∃ i : Nat, ex 12 (Gn (n + 11) d_law) (sq 11) (sl (vI z) (vI m) (vR (allL z m)) k ru to (vR l) none none rw lr none none) (Wo o) = .ok (.nxt (sl (vI z) (vI m) (vR (allL z m)) k ru to (vR l) (vI i) none rw lr none none)) (Wo o.tl) := by
  obtain ⟨i, ei, hi⟩ := nat_draw ho (m := l.length + 1) (by omega)
  have d1 := S_draw (n + 10) o ((l.length + 1 : Nat) : Int) (by omega) (by omega)
  rw [ei] at d1
  refine ⟨i, ?_⟩
  rw [show sq 11 = Stmt.Assign _ _ _ from rfl]
  unfold sl
  have d1 : pg.TO (n + 11) "_law_draw" [spc 1, .int ((l.length : Int) + 1)] (Wo o) = .ok (.val (.int i)) (Wo o.tl) := d1
  simp [d1]
theorem q_13 (hk : nbB k = true) (hrw : nbB rw = true) (hlr : nbB lr = true) (d1 d2 d3 d4 : D) : ex 12 (Gn (n + 11) d_law) (sq 13) (sl (vI z) (vI m) (vR (allL z m)) k (some (.val d1)) (some (.val d2)) (some (.val d3)) (some (.val d4)) none rw lr none none) w = .ok (.nxt (sl (vI z) (vI m) (vR (allL z m)) k (some (.val d1)) (some (.val d2)) (some (.val d3)) (some (.val d4)) (some (.bor [])) rw lr none none)) w := by
  rw [show sq 13 = Stmt.Assign [.Name "known" _] (.Dict [] [] _) _ from rfl]
  unfold sl
  simp [noDct_eq, hk, hrw, hlr]
include h1 h4 hm hr
theorem q_14 : ∃ rw' ow, ex 12 (Gn (n + 11) d_law) (sq 14) (sl (vI z) (vI m) (vR (allL z m)) k (some (.val (rlD r))) to go ra (some (.bor [])) rw lr none none) w = .ok (.nxt (sl (vI z) (vI m) (vR (allL z m)) k (some (.val (rlD r))) to go ra (some (.bor ((cntL ((allL z m).map (res r))).map encP))) rw' lr ow none)) w := by
  rw [show sq 14 = Stmt.For _ (.Name "rows" _) [_, _] [] _ from rfl]
  have hlx : (allL z m).length < 1000 := by
    rw [allL_len]
    calc (m + 1) ^ z ≤ 3 ^ z := Nat.pow_le_pow_left (by omega) z
      _ ≤ 3 ^ 4 := Nat.pow_le_pow_right (by omega) h4
      _ < 1000 := by decide
  unfold sl
  simp
  generalize hmm : forL _ _ _ _ = mm
  obtain ⟨s', w', rfl, rfl, x, y, rfl⟩ := forL_map hmm (fun pre s w' => w' = w ∧ ∃ x y, s = sl (vI z) (vI m) (vR (allL z m)) k (some (.val (rlD r))) to go ra (some (.bor ((cntL (pre.map (res r))).map encP))) x lr y none) ⟨rfl, _, _, rfl⟩ (by
    rintro pre row post s w' e ⟨rfl, x, y, rfl⟩ P hP
    have hin : row ∈ allL z m := by rw [e]; exact List.mem_append_right _ List.mem_cons_self
    have er := e_res n z m h1 h4 hm r hr w' row hin
    have hll : (cntL (pre.map (res r))).length < 1000 := by
      have a := cntL_len (pre.map (res r))
      have b := congrArg List.length e
      simp at a b
      omega
    have dc : decL ((cntL (pre.map (res r))).map encP) = some (cntL (pre.map (res r))) := decL_encS _
    have ci := cntL_int (pre.map (res r)) (res r row)
    have er : pg.TO (n + 11) "_law_result" [rlD r, lD row] w' = .ok (.val (fr (res r row))) w' := er
    unfold sl
    simp [loopF_eq, er, dc, ci, hll]
    refine hP _ _ ⟨rfl, some (.val (lD row)), some (.val (fr (res r row))), ?_⟩
    simp only [List.map_append, List.map_cons, List.map_nil, cntL_app]
    rfl)
  exact ⟨x, y, rfl⟩
theorem q_15 (ow : Option RV) : ex 12 (Gn (n + 11) d_law) (sq 15) (sl (vI z) (vI m) (vR (allL z m)) k (some (.val (rlD r))) to go ra (some (.bor ((cntL ((allL z m).map (res r))).map encP))) rw lr ow none) w = .ok (.nxt (sl (vI z) (vI m) (vR (allL z m)) k (some (.val (rlD r))) to go ra (some (.bor ((cntL ((allL z m).map (res r))).map encP))) rw lr ow none)) w := by
  rw [show sq 15 = Stmt.If _ _ _ _ from rfl]
  have dc : decL ((cntL ((allL z m).map (res r))).map encP) = some (cntL ((allL z m).map (res r))) := decL_encS _
  unfold sl
  simp [compW_eq, dc]
  rw [compL_none]
  · have c1 : cmpop .NotEq (.own []) (.own []) = some false := by kernel_rfl
    simp [c1]
  · intro q hq
    obtain ⟨p, hp, e⟩ := cntL_key hq
    obtain ⟨row, hrow, rfl⟩ := List.mem_map.mp hp
    have hx := allL_ok hrow h1 (by omega) (by omega)
    have hf := isFr_res (r := r) (by rw [(allL_mem hrow).1]; exact hr) hx
    have ct := S_count_with (n + 3) r z m (res r row) hr h1 (by omega) (by omega) hf w
    have cg := cntL_get ((allL z m).map (res r)) (res r row)
    have cc : ((allL z m).map (res r)).countP (fun p => decide (p = res r row)) = (fitL r z m (res r row)).length := by
      unfold fitL
      rw [List.countP_map, List.countP_eq_length_filter]
      rfl
    have hpos : (fitL r z m (res r row)).length ≠ 0 := fun z0 => by
      have : row ∈ fitL r z m (res r row) := List.mem_filter.mpr ⟨hrow, by simp⟩
      rw [List.eq_nil_of_length_eq_zero z0] at this
      cases this
    rw [cc, if_neg hpos] at cg
    rw [e, ktD_fk]
    simp [eltW_eq, dc, ct, cg]
theorem q_16 (s : Sl) (ow kn : Option RV) : ex 12 (Gn (n + 11) d_law) (sq 16) (sl (vI z) (vI m) (vR (allL z m)) k (some (.val (rlD r))) to go ra kn rw lr ow none) w = .ok (.ret (.val (.bool true))) w := by
  rw [show sq 16 = Stmt.Return _ _ from rfl]
  have ct := S_count_with (n + 3) r z m ((m : Int), 1) hr h1 (by omega) (by omega) (isFr_int (by omega)) w
  have hp := fitL_top (m := m) hr
  have ct : pg.TO (n + 11) "count_with" [rlD r, .int z, .int m, .tuple [.int m, .int 1]] w = .ok (.val (.int (fitL r z m ((m : Int), 1)).length)) w := ct
  unfold sl
  simp [ct, hp]
end
theorem S_law (n : Nat) (o : Orc) (ho : OkO o) : ∃ w', pg.TO (n + 12) "law" [spc 0] [.orc o] = .ok (.val (.bool true)) w' := by
  rw [TO_law, show L2.defBody d_law.st = [sq 0, sq 1, sq 2, sq 3, sq 4, sq 5, sq 6, sq 7, sq 8, sq 9, sq 10, sq 11, sq 12, sq 13, sq 14, sq 15, sq 16] from rfl]
  obtain ⟨k0, ek, hk0⟩ := nat_draw ho (m := 4) (by omega)
  have d1 := S_draw (n + 10) o 4 (by omega) (by omega)
  rw [show o 0 4 = (k0 : Int) from ek] at d1
  have ho1 := okO_tl ho
  generalize Orc.tl o = o1 at d1 ho1
  obtain ⟨m0, em, hm0⟩ := nat_draw ho1 (m := 2) (by omega)
  have d2 := S_draw (n + 10) o1 2 (by omega) (by omega)
  rw [show o1 0 2 = (m0 : Int) from em] at d2
  have ho2 := okO_tl ho1
  generalize Orc.tl o1 = o2 at d2 ho2
  obtain ⟨z, hz⟩ : ∃ z : Nat, z = 1 + k0 := ⟨_, rfl⟩
  obtain ⟨m, hm⟩ : ∃ m : Nat, m = 1 + m0 := ⟨_, rfl⟩
  have hz1 : (1 : Int) + (k0 : Int) = (z : Int) := by omega
  have hm1 : (1 : Int) + (m0 : Int) = (m : Int) := by omega
  have h1 : 1 ≤ z := by omega
  have h4 : z ≤ 4 := by omega
  have hm2 : m ≤ 2 := by omega
  have s0 : ex 12 (Gn (n + 11) d_law) (sq 0) [some (.val (spc 0)), none, none, none, none, none, none, none, none, none, none, none, none, none, none] [.orc o] = .ok (.nxt (sl none none none none none none none none none none none none none)) (Wo o) := by
    rw [show sq 0 = Stmt.Assign _ _ _ from rfl]
    unfold sl
    simp [S_start]
  have s1 : ex 12 (Gn (n + 11) d_law) (sq 1) (sl none none none none none none none none none none none none none) (Wo o) = .ok (.nxt (sl (vI z) none none none none none none none none none none none none)) (Wo o1) := by
    rw [show sq 1 = Stmt.Assign _ _ _ from rfl]
    unfold sl
    simp [d1, hz1]
  have s2 : ex 12 (Gn (n + 11) d_law) (sq 2) (sl (vI z) none none none none none none none none none none none none) (Wo o1) = .ok (.nxt (sl (vI z) (vI m) none none none none none none none none none none none)) (Wo o2) := by
    rw [show sq 2 = Stmt.Assign _ _ _ from rfl]
    unfold sl
    simp [d2, hm1]
  have s3 : ex 12 (Gn (n + 11) d_law) (sq 3) (sl (vI z) (vI m) none none none none none none none none none none none) (Wo o2) = .ok (.nxt (sl (vI z) (vI m) (vR [[]]) none none none none none none none none none none)) (Wo o2) := by
    rw [show sq 3 = Stmt.Assign _ _ _ from rfl]
    unfold sl
    simp [lD]
  obtain ⟨k, rw, lr, ⟨nb1, nb2, nb3⟩, s4⟩ := q_4 n z m h1 h4 hm2 (Wo o2)
  obtain ⟨r, o3, hr, ho3, s5⟩ := q_5 n z m h1 h4 hm2 o2 ho2 k rw lr
  obtain ⟨p0, o4, hp0, ho4, s6⟩ := q_6 n z m h1 h4 hm2 o3 ho3 r hr k rw lr
  obtain ⟨p, o5, hp, ho5, s7⟩ := q_7 n z m h1 h4 hm2 o4 ho4 p0 hp0 (some (.val (rlD r))) k rw lr
  have s8 := q_8 n z m h1 h4 hm2 r hr p k rw lr (Wo o5)
  have s9 := q_9 n z m h1 h4 hm2 r hr p hp k rw lr (Wo o5)
  have s10 := q_10 n z m h1 h4 hm2 r hr p hp k rw lr (Wo o5)
  obtain ⟨i, s11⟩ := q_11 n z m (some (.val (rlD r))) (some (.val (fr p))) k rw lr o5 ho5 (fitL r z m p) (fitL_len (by omega) (by omega))
  have s12 := q_12 n z m h1 h4 hm2 r hr p hp k rw lr (Wo o5.tl) i
  have s13 := q_13 n z m k rw lr (Wo o5.tl) nb1 nb2 nb3 (rlD r) (fr p) (.list ((fitL r z m p).map lD)) (.int i)
  obtain ⟨rw', ow, s14⟩ := q_14 n z m h1 h4 hm2 r hr (some (.val (fr p))) (vR (fitL r z m p)) (vI i) k rw lr (Wo o5.tl)
  have s15 := q_15 n z m h1 h4 hm2 r hr (some (.val (fr p))) (vR (fitL r z m p)) (vI i) k rw' lr (Wo o5.tl) ow
  have s16 := q_16 n z m h1 h4 hm2 r hr (some (.val (fr p))) (vR (fitL r z m p)) (vI i) k rw' lr (Wo o5.tl) [] ow (some (.bor ((cntL ((allL z m).map (res r))).map encP)))
  refine ⟨Wo o5.tl, ?_⟩
  show outV (TM.execs (ex 12 (Gn (n + 11) d_law)) _ [some (.val (spc 0)), none, none, none, none, none, none, none, none, none, none, none, none, none, none] _) = _
  rw [exs_step s0, exs_step s1, exs_step s2, exs_step s3, exs_step s4, exs_step s5, exs_step s6, exs_step s7, exs_step s8, exs_step s9, exs_step s10, exs_step s11, exs_step s12, exs_step s13, exs_step s14, exs_step s15]
  show outV ((ex 12 (Gn (n + 11) d_law) (sq 16) _ _).bind _) = _
  rw [s16]
  rfl
theorem law_T : ∀ ns : List Int, ns.length ≤ 63 → ∃ w', pg.T 40 "law" [spc 0] [.scr ns] = .ok (.val (.bool true)) w' := law_of fun o ho => S_law 28 o ho
end Row

namespace Row
open PySem PySem.Spec PyProof.Rows L2 TM
abbrev R : PySem.W.OpenRow := PySem.W.OpenLaw.row PySem.Challenge.rw_trimmedmeans_k09_whole_listed
def fa : List He.Fa := Pg.fa pg
def fn : List He.DefD := Pg.fn pg
abbrev hk : PySem.W.Hook := hookX 4 fa fn (xcB pg.xs)
def ob (s : PySem.W.SharedT) : He.AlD × Bool := obsX 4 fa fn (xcB pg.xs) (HandSHeadRun.getT s)
theorem ob_eq (s : PySem.W.SharedT) : ob s = hk.obs s.abs :=
  letI : TM.CNm := ⟨fun _ => 0⟩
  obsX_eq (HandSHeadRun.getT_eq s)
def loose : List Str := [("is_int" : Str), ("is_rule" : Str), ("check_rule" : Str), ("common" : Str), ("lowest" : Str), ("plus" : Str), ("half_of" : Str), ("less" : Str), ("in_order" : Str), ("middle_of" : Str), ("is_fraction" : Str), ("kept_values" : Str), ("mean" : Str), ("pair_means" : Str), ("group_means" : Str), ("result_of" : Str), ("check_told" : Str), ("all_lists" : Str), ("fitting" : Str), ("data_with" : Str), ("count_with" : Str), ("first_with" : Str), ("data_at" : Str), ("_law_start" : Str), ("_law_draw" : Str), ("_law_pick" : Str), ("_law_error" : Str), ("_law_rules" : Str), ("_law_low" : Str), ("_law_middle" : Str), ("_law_result" : Str), ("_law_call" : Str), ("MOST_DATA" : Str), ("MOST_SIZE" : Str), ("MOST_SEARCH" : Str), ("MeanError" : Str), ("BadRule" : Str), ("BadData" : Str), ("BadNumber" : Str), ("BadText" : Str), ("NotFound" : Str)]
theorem run (w : World) : HandSHeadRun.RunEq R (PySem.W.view R.prog [46]) hk ob 8000 loose w := by
  intro os
  kernel_rfl
end Row
open PySem PySem.W PySem.Calls PyProof.Rows
theorem PySem.Challenge.cw_trimmedmeans_k09_whole_listed_holds : PySem.Challenge.rw_trimmedmeans_k09_whole_listed.Holds := by
  w_on; o_law
  refine HandSHeadRun.head_any (r := OpenLaw.row PySem.Challenge.rw_trimmedmeans_k09_whole_listed) (q := view (OpenLaw.row PySem.Challenge.rw_trimmedmeans_k09_whole_listed).prog [46]) (H := Row.hk) (ob := Row.ob) (M := 8000) (loose := Row.loose) (d := HandSHeadRun.topDef (OpenLaw.row PySem.Challenge.rw_trimmedmeans_k09_whole_listed).prog 46) (kwd := []) Row.ob_eq
    (by kernel_rfl) (fun s => by kernel_rfl) Row.run (by kernel_rfl) (by kernel_rfl) (by kernel_rfl) (by rfl) (by first | assumption | decide +kernel) (by decide +kernel) ⟨rfl, rfl, rfl, rfl, rfl, by decide +kernel⟩ ?hw ?hc
  case hw => w_witness2
  case hc =>
    refine L2.walk_ofE (l := PySem.Challenge.rw_trimmedmeans_k09_whole_listed) (n := 63) (k := 2 * 40) (x := "script") (CX := TM.CX1 PySem.Challenge.rw_trimmedmeans_k09_whole_listed.prog) rfl (by decide) (by kernel_rfl) ⟨rfl, by decide, by decide⟩ ?F (letI : TM.CNm := ⟨fun _ => 0⟩; fun H s e s2 z => TM.cx1_no H s e s2 z)
    intro w mg fa h Y G hmg0
    obtain ⟨K, KX, c, hxb⟩ := Y
    have hmg : mg ("law" : PySem.Str) = some (.ref fa) := by
      have e : (HandSHeadRun.topDef (OpenLaw.row PySem.Challenge.rw_trimmedmeans_k09_whole_listed).prog 46).name = ("law" : PySem.Str) := by kernel_rfl
      rw [← e]
      exact hmg0
    exact TM.law_ok (pg := Row.pg) (fd := Row.d_law) KX G hmg c hxb Row.wrow ⟨by decide +kernel, by decide +kernel⟩ (by decide +kernel) Row.oks (by rfl) (by rfl) Row.law_T
