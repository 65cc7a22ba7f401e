import PyProof.Rows.All
import Wide.All
import OpenK.AllK
import Wide.FinOn
import KE.KStateDown
import HandS.ForMost
import HandS.ForExc
import HandS.Flow
import HandS.Style
import HandS.Deep
import HandS.Replace
import HandS.ReplaceList
import HandS.Wide
import HandS.StrMore
import HandS.CallSlots
import HandS.TryMany
import HandS.Defaults
import HandS.IsInst
import HandS.Walk
import HandS.TupAny
import HandS.TupMul
import HandS.Head2
import HandS.HeadEnd
import HandS.HeadHook2
import KE.DataFind
import HandS.Codes
import HandS.Head0
import HandS.Head1
import PySem.Challenge.RW_keyreckon_k11_at_the_edges
set_option Elab.async false
set_option linter.all false
set_option maxRecDepth 100000
set_option maxHeartbeats 0
/-! KR: an interpreter of our own for a small part of Python, over plain data. -/
namespace KR
open PySem L2

abbrev Tx := List Nat
def St (s : Tx) : Str := ⟨s.toArray⟩
def okT (s : Tx) : Bool := s.all fun c => decide (c < 0x110000)

/-- plain data -/
inductive D where
  | non | bl (b : Bool) | int (i : Int) | str (s : Tx)
  | tup (xs : List D) | lst (xs : List D)
  | ins (c : Str) (ns : List Str) (xs : List D)
  /-- a list of ints that is read alone: the script -/
  | scr (ns : List Int)
/-- a value: plain data, or a mutable object by its place -/
inductive W where
  | d (x : D) | r (i : Nat)
inductive Ob where
  | lst (ws : List W) | dic (ks : List Key) (ws : List W) | ins (c : Str) (ns : List Str) (ws : List W)
abbrev Hs := List Ob
inductive R (α : Type) where
  | ok (a : α) (h : Hs) | ex (c : Str) (h : Hs) | no
abbrev M (α : Type) := Hs → R α
def ret {α : Type} (a : α) : M α := fun h => .ok a h
def bad {α : Type} : M α := fun _ => .no
def raisM {α : Type} (c : Str) : M α := fun h => .ex c h
def bnd {α β : Type} (m : M α) (f : α → M β) : M β := fun h => match m h with
  | .ok a h' => f a h'
  | .ex c h' => .ex c h'
  | .no => .no
/-- what is raised is not told -/
def noEx {α : Type} (m : M α) : M α := fun h => match m h with
  | .ok a h' => .ok a h'
  | .ex _ _ => .no
  | .no => .no
def ofO {α : Type} : Option α → M α
  | some a => ret a
  | none => bad
def ofD (o : Option D) : M W := match o with
  | some x => ret (.d x)
  | none => bad
abbrev Env := List (Option W)
/-- what stands behind a statement -/
inductive RS where
  | nx (e : Env) (h : Hs) | rt (w : W) (h : Hs) | bk (e : Env) (h : Hs) | ct (e : Env) (h : Hs) | ex (c : Str) (e : Env) (h : Hs) | no
abbrev MS := Hs → RS
def seqS (m : MS) (k : Env → MS) : MS := fun h => match m h with
  | .nx e h' => k e h'
  | .rt w h' => .rt w h'
  | .bk e h' => .bk e h'
  | .ct e h' => .ct e h'
  | .ex c e h' => .ex c e h'
  | .no => .no
def exprS {α : Type} (m : M α) (env : Env) (k : α → MS) : MS := fun h => match m h with
  | .ok w h' => k w h'
  | .ex c h' => .ex c env h'
  | .no => .no

/-! ### data -/
mutual
def D.dep : D → Nat
  | .tup xs => D.depL xs + 1
  | .lst xs => D.depL xs + 1
  | .ins _ _ _ => 1000
  | .scr _ => 1000
  | _ => 0
def D.depL : List D → Nat
  | [] => 0
  | x :: xs => max (D.dep x) (D.depL xs)
end
mutual
def D.eqb : D → D → Bool
  | .non, b => (match b with | .non => true | _ => false)
  | .bl a, b => (match b with | .bl c => a == c | .int j => (if a then 1 else 0) == j | _ => false)
  | .int i, b => (match b with | .bl c => i == (if c then 1 else 0) | .int j => i == j | _ => false)
  | .str s, b => (match b with | .str t => s == t | _ => false)
  | .tup xs, b => (match b with | .tup ys => D.eqbL xs ys | _ => false)
  | .lst xs, b => (match b with | .lst ys => D.eqbL xs ys | _ => false)
  | .ins _ _ _, _ => false
  | .scr _, _ => false
def D.eqbL : List D → List D → Bool
  | [], ys => (match ys with | [] => true | _ :: _ => false)
  | x :: xs, ys => (match ys with | [] => false | y :: ys => D.eqb x y && D.eqbL xs ys)
end
def D.flat : D → Bool := fun d => decide (d.dep ≤ 64)
def eqD (a b : D) : Option Bool := if a.flat && b.flat then some (D.eqb a b) else none
def lenOk (n : Nat) : Bool := decide (n ≤ 1000000)
def D.tru : D → Option Bool
  | .non => some false
  | .bl b => some b
  | .int i => some (i != 0)
  | .str s => if lenOk s.length then some (!s.isEmpty) else none
  | .tup xs => some (!xs.isEmpty)
  | .lst xs => some (!xs.isEmpty)
  | .ins _ _ _ => none
  | .scr _ => none
def truM : W → M Bool
  | .d x => ofO x.tru
  | .r i => fun h => match h[i]? with
    | some (.lst ws) => .ok (!ws.isEmpty) h
    | some (.dic ks _) => .ok (!ks.isEmpty) h
    | _ => .no
def W.data : W → Option D
  | .d x => some x
  | .r _ => none
def datas : List W → Option (List D)
  | [] => some []
  | .d x :: ws => (match datas ws with | some xs => some (x :: xs) | none => none)
  | .r _ :: _ => none
/-- what is frozen of a value -/
def frz (h : Hs) : W → Option D
  | .d x => some x
  | .r i => match h[i]? with
    | some (.lst ws) => (match datas ws with | some xs => some (.lst xs) | none => none)
    | some (.ins c ns ws) => (match datas ws with | some xs => some (.ins c ns xs) | none => none)
    | _ => none

/-! ### operators -/
def mulOk (i j : Int) : Bool := decide (i.natAbs.log2 + j.natAbs.log2 < 100000)
def repT (n : Nat) (s : Tx) : Tx := (List.replicate n s).flatten
def binop : Operator → D → D → Option D
  | .Add, .int i, .int j => some (.int (i + j))
  | .Add, .str a, .str b => if lenOk (a.length + b.length) then some (.str (a ++ b)) else none
  | .Add, .lst a, .lst b => if lenOk (a.length + b.length) then some (.lst (a ++ b)) else none
  | .Add, .tup a, .tup b => if lenOk (a.length + b.length) then some (.tup (a ++ b)) else none
  | .Sub, .int i, .int j => some (.int (i - j))
  | .Mult, .int i, .int j => if mulOk i j then some (.int (i * j)) else none
  | .Mult, .str a, .int j => if decide (0 ≤ j) && lenOk j.toNat && lenOk (a.length * j.toNat) then some (.str (repT j.toNat a)) else none
  | .Mult, .lst a, .int j => if decide (0 ≤ j) && lenOk j.toNat && lenOk (a.length * j.toNat) then some (.lst (List.replicate j.toNat a).flatten) else none
  | .Mult, .tup a, .int j => if !a.isEmpty && (decide (2 ≤ j) && lenOk j.toNat && lenOk (a.length * j.toNat)) then some (.tup (List.replicate j.toNat a).flatten) else none
  | .FloorDiv, .int i, .int j => if decide (0 < j) && decide (j.natAbs.log2 < 9000) then some (.int (i / j)) else none
  | .Mod, .int i, .int j => if decide (0 < j) then some (.int (i % j)) else none
  | .Pow, .int i, .int j => if decide (0 ≤ j) && decide (j ≤ 1000) && decide (i.natAbs < 2 ^ 64) then some (.int (i ^ j.toNat)) else none
  | _, _, _ => none
def isIn (x : D) : List D → Bool
  | [] => false
  | y :: ys => D.eqb y x || isIn x ys
def inD (x y : D) : Option Bool := match y with
  | .lst ys => if x.flat && (D.lst ys).flat then some (isIn x ys) else none
  | .tup ys => if x.flat && (D.tup ys).flat then some (isIn x ys) else none
  | .str s => (match x with | .str [c] => some (decide (c ∈ s)) | _ => none)
  | _ => none
def cmpop : CmpOp → D → D → Option Bool
  | .Eq, a, b => eqD a b
  | .NotEq, a, b => (eqD a b).map (!·)
  | .Lt, .int i, .int j => some (decide (i < j))
  | .LtE, .int i, .int j => some (decide (i ≤ j))
  | .Gt, .int i, .int j => some (decide (j < i))
  | .GtE, .int i, .int j => some (decide (j ≤ i))
  | .Is, a, .non => some (match a with | .non => true | _ => false)
  | .IsNot, a, .non => some (match a with | .non => false | _ => true)
  | .In, a, b => inD a b
  | .NotIn, a, b => (inD a b).map (!·)
  | _, _, _ => none
/-! ### items, slices -/
def nth {α : Type} (xs : List α) (i : Int) : Option α := atI xs i
def cut {α : Type} (xs : List α) (lo hi : Option Int) : List α := (xs.drop (HT.sIx xs.length 0 lo)).take (HT.sIx xs.length xs.length hi - HT.sIx xs.length 0 lo)
def getI : D → D → Option D
  | .lst xs, .int i => if lenOk xs.length then nth xs i else none
  | .tup xs, .int i => if lenOk xs.length then nth xs i else none
  | .str s, .int i => if lenOk s.length then (nth s i).map fun c => .str [c] else none
  | .scr ns, .int i => (nth ns i).map D.int
  | _, _ => none
def sliceD (x : D) (lo hi : Option Int) : Option D := match x with
  | .lst xs => if lenOk xs.length then some (.lst (cut xs lo hi)) else none
  | .tup xs => if lenOk xs.length then some (.tup (cut xs lo hi)) else none
  | .str s => if lenOk s.length then some (.str (cut s lo hi)) else none
  | _ => none
def backD : D → Option D
  | .lst xs => if lenOk xs.length then some (.lst xs.reverse) else none
  | .str s => if lenOk s.length then some (.str s.reverse) else none
  | _ => none
def optI : Option D → Option (Option Int)
  | none => some none
  | some (.int i) => some (some i)
  | some _ => none
def keyD : D → Option Key
  | .int i => some (.inl i)
  | .str s => some (.inr (St s))
  | _ => none
def keyAt (k : Key) : List Key → Option Nat
  | [] => none
  | q :: ks => if q = k then some 0 else (keyAt k ks).map (· + 1)

/-! ### texts -/
def strsOf : List D → Option (List Tx)
  | [] => some []
  | .str s :: r => (match strsOf r with | some l => some (s :: l) | none => none)
  | _ :: _ => none
def rstripT (cs s : Tx) : Tx := (s.reverse.dropWhile fun c => decide (c ∈ cs)).reverse
def stripT (cs s : Tx) : Tx := rstripT cs (s.dropWhile fun c => decide (c ∈ cs))
def rjustT (s : Tx) (n : Int) (c : Nat) : Tx := List.replicate (n.toNat - s.length) c ++ s
def firstT (c : Nat) : Tx → Option Nat
  | [] => none
  | d :: s => if d = c then some 0 else (firstT c s).map (· + 1)
def strT (i : Int) : Tx := if i < 0 then 45 :: TL.numL i.natAbs else TL.numL i.natAbs
def intT (s : Tx) : Option Int := PySem.intText? (St s)
/-- a method of a text -/
def strM (m : Str) (s : Tx) (xs : List D) : Option D :=
  if m = "split" then (match xs with | [.str [c]] => if lenOk s.length && decide (c < 256) then some (.lst ((TL.spl [c] 0 [] s).map D.str)) else none | _ => none)
  else if m = "join" then (match xs with | [.lst ys] => (match strsOf ys with | some l => if lenOk s.length && lenOk (TL.joinL s l).length then some (.str (TL.joinL s l)) else none | none => none) | _ => none)
  else if m = "strip" then (match xs with | [.str cs] => if lenOk s.length then some (.str (stripT cs s)) else none | _ => none)
  else if m = "rstrip" then (match xs with | [.str cs] => if lenOk s.length then some (.str (rstripT cs s)) else none | _ => none)
  else if m = "rjust" then (match xs with | [.int n, .str [c]] => if lenOk s.length && decide (0 ≤ n) && lenOk n.toNat then some (.str (rjustT s n c)) else none | _ => none)
  else if m = "replace" then (match xs with | [.str [c], .str z] => if lenOk s.length && decide (z.length ≤ 10) then some (.str (PySem.StrLaws.replL [c] z s)) else none | _ => none)
  else if m = "index" then (match xs with | [.str [c]] => if lenOk s.length then (firstT c s).map fun i => .int (i : Nat) else none | _ => none)
  else none
def countD (x : D) (ys : List D) : Nat := ys.countP fun y => D.eqb y x
/-- a method of a list or tuple that is data -/
def seqM (m : Str) (ys : List D) (xs : List D) : Option D :=
  if m = "count" then (match xs with | [x] => if x.flat && (D.tup ys).flat then some (.int (countD x ys)) else none | _ => none)
  else none

/-! ### what a program is -/
structure FnI where
  qual : Str
  ps : List Str
  N : List Str
  sc : Scope
  body : List Stmt
structure Gam where
  fn : Str → Option FnI
  /-- the module's own defs -/
  glb : Str → Bool
  con : Str → Option D
  exc : Str → Bool
  /-- the first is one of the second -/
  sub : Str → Str → Bool
  /-- a class: whether its instances are frozen when made -/
  cls : Str → Option Bool
  /-- the fields of a class -/
  att : Str → Str → Bool
  /-- defs that work on the caller's objects though they are handed data alone -/
  imp : Str → Bool
  /-- names (of a def) and fields that hold objects -/
  mutb : Str → Str → Bool
/-- a name that the machine reads the plain way -/
def okName (x : Str) : Bool := !(x == ("__debug__" : Str)) && !(x == ("__classdict__" : Str)) && !(x == ("__name__" : Str))
def vis (sc : Scope) (x : Str) : Bool := okName x && match sc.names.lookup x with
  | some .local => true
  | some .cell => true
  | some .free => true
  | _ => false
def loc (sc : Scope) (x : Str) : Bool := match sc.names.lookup x with
  | some .local => true
  | some .cell => true
  | _ => false
def isLoc (sc : Scope) (x : Str) : Bool := match sc.names.lookup x with
  | some .local => true
  | _ => false
def glo (sc : Scope) (x : Str) : Bool := okName x && match sc.names.lookup x with
  | some .globalImplicit => true
  | _ => false
def ix (x : Str) : List Str → Option Nat
  | [] => none
  | y :: N => if decide (y = x) then some 0 else (match ix x N with | some i => some (i + 1) | none => none)
def slot (env : Env) (i : Nat) : M W := match env[i]? with
  | some (some w) => ret w
  | _ => bad
def look (N : List Str) (env : Env) (x : Str) : M W := match ix x N with
  | some i => slot env i
  | none => bad
def wipeE : Env → List Nat → Env
  | env, [] => env
  | env, v :: vs => (wipeE env vs).set v none

/-- the oracle of calls -/
abbrev Cl := Str → List W → M W
def callP (cl : Cl) (q : Str) (ws : List W) : M W := fun h => match cl q ws [] with
  | .ok w h' => (match frz h' w with | some d => .ok (.d d) h | none => .no)
  | .ex c _ => .ex c h
  | .no => .no
def callF (G : Gam) (cl : Cl) (q : Str) (ws : List W) : M W := match G.imp q with
  | true => cl q ws
  | false => (match datas ws with
    | some _ => callP cl q ws
    | none => cl q ws)
/-- an instance is made -/
def make (G : Gam) (cl : Cl) (c : Str) (fz : Bool) (ws : List W) : M W := match fz with
  | true => (match datas ws with
    | some _ => fun h => (match cl (c ++ ("." : Str) ++ ("__init__" : Str)) (.r 0 :: ws) [.ins c [] []] with
      | .ok (.d .non) h' => (match frz h' (.r 0) with | some d => .ok (.d d) h | none => .no)
      | .ok _ _ => .no
      | .ex e _ => .ex e h
      | .no => .no)
    | none => bad)
  | false => fun h => (match cl (c ++ ("." : Str) ++ ("__init__" : Str)) (.r h.length :: ws) (h ++ [.ins c [] []]) with
      | .ok (.d .non) h' => .ok (.r h.length) h'
      | .ok _ _ => .no
      | .ex e h' => .ex e h'
      | .no => .no)

end KR
/-! KR: the interpreter. -/
namespace KR
open PySem L2

def fldAt (f : Str) : List Str → List W → Option W
  | n :: ns, w :: ws => if decide (n = f) then some w else fldAt f ns ws
  | _, _ => none
def fldAtD (f : Str) : List Str → List D → Option D
  | n :: ns, w :: ws => if decide (n = f) then some w else fldAtD f ns ws
  | _, _ => none
/-- a field of an object -/
def getF (G : Gam) (w : W) (f : Str) : M W := match w with
  | .d (.ins c ns xs) => if G.att c f then (match fldAtD f ns xs with | some x => ret (.d x) | none => bad) else bad
  | .d _ => bad
  | .r i => fun h => match h[i]? with
    | some (.ins c ns ws) => if G.att c f then (match fldAt f ns ws with | some x => .ok x h | none => .no) else .no
    | _ => .no
def putN (f : Str) (v : W) : List Str → List W → List Str × List W
  | n :: ns, w :: ws => if decide (n = f) then (n :: ns, v :: ws) else (n :: (putN f v ns ws).1, w :: (putN f v ns ws).2)
  | _, _ => ([f], [v])
def setF (G : Gam) (w : W) (f : Str) (v : W) : M Unit := match w with
  | .d _ => bad
  | .r i => fun h => match h[i]? with
    | some (.ins c ns ws) => if G.att c f && decide (ns.length < 100) then .ok () (h.set i (.ins c (putN f v ns ws).1 (putN f v ns ws).2)) else .no
    | _ => .no
def getX (a b : W) : M W := match a, b with
  | .d x, .d y => ofD (getI x y)
  | .r i, .d y => fun h => match h[i]? with
    | some (.lst ws) => (match y with | .int j => (match nth ws j with | some w => .ok w h | none => .no) | _ => .no)
    | _ => .no
  | _, _ => bad
def setX (a b v : W) : M Unit := match a, b with
  | .r i, .d y => fun h => match h[i]? with
    | some (.lst ws) => (match y with
      | .int j => (match nth (List.range ws.length) j with | some n => .ok () (h.set i (.lst (ws.set n v))) | none => .no)
      | _ => .no)
    | _ => .no
  | _, _ => bad
/-- a method of a mutable list or dict -/
def objM (m : Str) (i : Nat) (xs : List W) : M W := fun h => match h[i]? with
  | some (.lst ws) =>
    if m = "append" then (match xs with | [x] => if lenOk ws.length then .ok (.d .non) (h.set i (.lst (ws ++ [x]))) else .no | _ => .no)
    else if m = "pop" then (match xs with | [] => (match ws.getLast? with | some w => .ok w (h.set i (.lst ws.dropLast)) | none => .no) | _ => .no)
    else .no
  | some (.dic ks ws) =>
    if m = "get" then (match xs with | [.d y, x] => (match keyD y with | some k => (match keyAt k ks with | some j => (match ws[j]? with | some w => .ok w h | none => .no) | none => .ok x h) | none => .no) | _ => .no)
    else .no
  | _ => .no
/-- what a method is called of -/
inductive Kd where
  | data (d : D) | own (c : Str) | obj (i : Nat)
def dataOk (m : Str) : D → Bool
  | .str _ => decide (m = "split") || (decide (m = "join") || (decide (m = "strip") || (decide (m = "rstrip") || decide (m = "rjust"))))
  | .tup _ => decide (m = "count")
  | .lst _ => decide (m = "count")
  | _ => false
def kindM (G : Gam) (w : W) (m : Str) : M Kd := match w with
  | .d (.ins c ns ys) => (match G.cls c, G.fn (c ++ ("." : Str) ++ m), fldAtD m ns ys with
    | some _, some _, none => ret (.own c)
    | _, _, _ => bad)
  | .d d => (match dataOk m d with | true => ret (.data d) | false => bad)
  | .r i => fun h => match h[i]? with
    | some (.ins c ns ws) => (match G.cls c, G.fn (c ++ ("." : Str) ++ m), fldAt m ns ws with
      | some _, some _, none => .ok (.own c) h
      | _, _, _ => .no)
    | some (.lst _) => if m = "append" ∨ m = "pop" then .ok (.obj i) h else .no
    | _ => .no
def dataM (m : Str) (d : D) (ys : List D) : Option D := match d with
  | .str s => strM m s ys
  | .tup l => seqM m l ys
  | .lst l => seqM m l ys
  | _ => none
def methC (G : Gam) (cl : Cl) (k : Kd) (w : W) (m : Str) (xs : List W) : M W := match k with
  | .data d => (match datas xs with | some ys => ofD (dataM m d ys) | none => bad)
  | .own c => callF G cl (c ++ ("." : Str) ++ m) (w :: xs)
  | .obj i => objM m i xs
/-- a built-in def of data -/
def blt (f : Str) (xs : List D) : Option D :=
  if f = "len" then (match xs with
    | [.str s] => if lenOk s.length then some (.int s.length) else none
    | [.tup l] => if lenOk l.length then some (.int l.length) else none
    | [.lst l] => if lenOk l.length then some (.int l.length) else none
    | [.scr l] => some (.int l.length)
    | _ => none)
  else if f = "int" then (match xs with
    | [.int i] => some (.int i)
    | [.bl b] => some (.int (if b then 1 else 0))
    | [.str s] => if decide (s.length ≤ 640) then (intT s).map D.int else none
    | _ => none)
  else if f = "str" then (match xs with
    | [.int i] => if decide (i.natAbs.log2 < 1920) then some (.str (strT i)) else none
    | _ => none)
  else if f = "abs" then (match xs with | [.int i] => some (.int (if i < 0 then -i else i)) | _ => none)
  else if f = "max" then (match xs with | [.int i, .int j] => some (.int (if j > i then j else i)) | _ => none)
  else if f = "min" then (match xs with | [.int i, .int j] => some (.int (if j < i then j else i)) | _ => none)
  else if f = "bool" then (match xs with
    | [.bl b] => some (.bl b)
    | [.int i] => some (.bl (i != 0))
    | [.tup l] => some (.bl (!l.isEmpty))
    | _ => none)
  else if f = "tuple" then (match xs with | [.lst l] => some (.tup l) | [.tup l] => some (.tup l) | _ => none)
  else if f = "list" then (match xs with | [.lst l] => some (.lst l) | [.tup l] => some (.lst l) | _ => none)
  else none
def lenW (w : W) : M W := match w with
  | .r i => fun h => (match h[i]? with
    | some (.lst ws) => if lenOk ws.length then .ok (.d (.int ws.length)) h else .no
    | _ => .no)
  | .d x => ofD (blt "len" [x])
/-- isinstance(x, T) of data -/
def tyT (T : Str) : Option Nat := if T = "bool" then some 1 else if T = "int" then some 2 else if T = "str" then some 3 else if T = "tuple" then some 4 else if T = "list" then some 5 else none
def tyD : D → Option Nat
  | .non => some 0
  | .bl _ => some 1
  | .int _ => some 2
  | .str _ => some 3
  | .tup _ => some 4
  | .lst _ => some 5
  | _ => none
def isiD (T : Str) (x : D) : Option Bool := match tyT T, tyD x with
  | some t, some k => some (t == k || (t == 2 && k == 1))
  | _, _ => none
/-- what a loop walks: a value a turn, or a pair of such -/
inductive Y where
  | v (w : W) | p (a b : Y)
def signs (s : Tx) : List Y := s.map fun c => .v (.d (.str [c]))
def numY (n : Nat) : List Y → List Y
  | [] => []
  | y :: ys => .p (.v (.d (.int n))) y :: numY (n + 1) ys
def zipY : List Y → List Y → List Y
  | a :: as, b :: bs => .p a b :: zipY as bs
  | _, _ => []
def rangeY (lo : Int) (n : Nat) : List Y := (List.range n).map fun (i : Nat) => .v (.d (.int (lo + i)))
def leafs (xs : List D) : List Y := xs.map fun x => .v (.d x)
def itW : W → M (List Y)
  | .d (.lst xs) => ret (leafs xs)
  | .d (.tup xs) => ret (leafs xs)
  | .d (.str s) => ret (signs s)
  | _ => bad
/-- a for's target takes what comes; st: the names that may be stored -/
def bindY (N : List Str) (st : Str → Bool) : Nat → Expr → Y → Env → Option Env
  | 0, _, _, _ => none
  | n + 1, t, y, env => match t with
    | .Name x _ => (match y, st x, ix x N with
      | .v w, true, some i => some (env.set i (some w))
      | _, _, _ => none)
    | .Tuple [a, b] _ _ => (match y with
      | .p u v => (match bindY N st n a u env with | some e => bindY N st n b v e | none => none)
      | .v (.d (.tup [u, v])) => (match bindY N st n a (.v (.d u)) env with | some e => bindY N st n b (.v (.d v)) e | none => none)
      | _ => none)
    | _ => none
def ownIx (N : List Str) : List (Str × NameKind) → Option (List (Str × Nat))
  | [] => some []
  | (x, k) :: r => (match ownIx N r with
    | none => none
    | some o => (match k with
      | .local => (match ix x N with | some i => some ((x, i) :: o) | none => some o)
      | .cell => (match ix x N with | some i => some ((x, i) :: o) | none => some o)
      | _ => some o))
/-- the turns of a comprehension -/
def lcM (step : Y → M (Option W)) : List Y → List D → M (List D)
  | [], acc => ret acc
  | y :: ys, acc => bnd (step y) fun o => match o with
    | none => lcM step ys acc
    | some (.d x) => if lenOk acc.length then lcM step ys (acc ++ [x]) else bad
    | some (.r _) => bad
def constD : Const → Option D
  | .none => some .non
  | .bool b => some (.bl b)
  | .int i => some (.int i)
  | .str s => if okT s.cps.toList then some (.str s.cps.toList) else none
  | _ => none
def isName : Expr → Bool
  | .Name _ _ => true
  | _ => false
/-- an expression that is walked the plain way -/
def notStar : Expr → Bool
  | .Starred _ _ => false
  | _ => true
/-- a value read as a test -/
def toB (m : M W) : M Bool := bnd m fun w => (match w with | .d (.bl b) => ret b | _ => bad)
def isN (w : W) : Bool := match w with | .d .non => true | _ => false
def isIs : CmpOp → Bool
  | .Is => true
  | .IsNot => true
  | _ => false
def notSlice : Expr → Bool
  | .Slice _ _ _ _ => false
  | _ => true
/-- an object's expression that is no call of a name alone -/
def plainBase : Expr → Bool
  | .Call (.Name _ _) [] [] _ => false
  | _ => true
structure Cfg where
  G : Gam
  cl : Cl
  N : List Str
def isBlt (x : Str) : Bool := decide (x ∈ (["len", "int", "str", "abs", "max", "min", "bool", "tuple", "list"] : List Str))
/-- o.strip(c).replace(y, z), the texts written -/
def replK (f : Expr) (args : List Expr) (pos : Pos) : Option (Expr × Str × Str × Str) := match f, args with
  | .Attribute (.Call (.Attribute o m2 ap2) [.Constant (.str c) _ _] [] pos2) m ap, [.Constant (.str y) _ _, .Constant (.str z) _ _] =>
    if decide (m2 = "strip") && (decide (m = "replace") && (ap.endLine == pos.line && (ap2.endLine == pos2.line && plainBase o))) then some (o, c, y, z) else none
  | _, _ => none
def replD (c y z : Str) (w : W) : Option D := match w with
  | .d (.str s) => (match y.cps.toList, strM "strip" s [.str c.cps.toList] with
    | [b], some (.str t) => if lenOk t.length && (decide (z.cps.toList.length ≤ 10) && (okT c.cps.toList && (okT z.cps.toList && !(y == z)))) then some (.str (PySem.StrLaws.replL [b] z.cps.toList t)) else none
    | _, _ => none)
  | _ => none
/-- the forms of what is walked -/
inductive ItK where
  | rng1 (a : Expr) | rng2 (a b : Expr) | enum (a : Expr) | zip (a b : Expr) | val | none
def isTupE : Expr → Bool
  | .Tuple _ _ _ => true
  | _ => false
def notSetE : Expr → Bool
  | .Set _ _ _ => false
  | _ => true
def itKind (G : Gam) (sc : Scope) (tg e : Expr) : ItK := match e with
  | .Call (.Name f _) args [] _ => (match glo sc f && (args.all notStar && !(G.fn f).isSome) with
    | false => .val
    | true => if f = "range" then (match args with | [a] => .rng1 a | [a, b] => .rng2 a b | _ => .none)
      else if f = "enumerate" then (match args, isTupE tg with | [a], true => .enum a | _, _ => .none)
      else if f = "zip" then (match args, isTupE tg with | [a, b], true => .zip a b | _, _ => .none)
      else .val)
  | .Set _ _ _ => .none
  | _ => .val
def oneGen (gens : List Comprehension) : Option (Expr × Expr × List Expr) := match gens with
  | [g] => if g.is_async = 0 then some (g.target, g.iter, g.ifs) else none
  | _ => none
/-- the tests of a comprehension -/
def tst (ifs : List Expr) (mt : Env → M Bool) (me : Env → M W) (e1 : Env) : M (Option W) := match ifs with
  | [] => bnd (me e1) fun w => ret (some w)
  | [_] => bnd (mt e1) fun c => (match c with | true => bnd (me e1) fun w => ret (some w) | false => ret none)
  | _ => bad
def stepM (N : List Str) (scb : Scope) (tg : Expr) (ifs : List Expr) (own : List (Str × Nat)) (env : Env) (mt : Env → M Bool) (me : Env → M W) (y : Y) : M (Option W) := noEx (match bindY N (isLoc scb) 4 tg y (wipeE env (own.map (·.2))) with
  | none => bad
  | some e1 => tst ifs mt me e1)
section
variable (C : Cfg)
mutual
def ev (n : Nat) (sc : Scope) (env : Env) (e : Expr) : M W := match n with
  | 0 => bad
  | n + 1 => match e with
    | .Constant c _ _ => ofD (constD c)
    | .Name x _ => (match vis sc x with
      | true => look C.N env x
      | false => (match glo sc x with | true => ofD (C.G.con x) | false => bad))
    | .BinOp l op r _ => bnd (ev n sc env l) fun a => bnd (ev n sc env r) fun b => (match a, b with | .d x, .d y => ofD (binop op x y) | _, _ => bad)
    | .UnaryOp .USub a _ => bnd (ev n sc env a) fun w => (match w with | .d (.int i) => ret (.d (.int (-i))) | _ => bad)
    | .UnaryOp .Not a _ => bnd (ev n sc env a) fun w => bnd (truM w) fun b => ret (.d (.bl (!b)))
    | .BoolOp op es _ => evB n sc env op es
    | .IfExp t a b _ => bnd (evT n sc env t) fun c => (match c with | true => ev n sc env a | false => ev n sc env b)
    | .Compare a ops bs _ => evC n sc env a ops bs
    | .Tuple es _ _ => bnd (evL n sc env es) fun ws => (match datas ws with | some xs => (match lenOk xs.length with | true => ret (.d (.tup xs)) | false => bad) | none => bad)
    | .List es _ => bnd (evL n sc env es) fun ws => (match datas ws with | some xs => (match lenOk xs.length with | true => ret (.d (.lst xs)) | false => bad) | none => bad)
    | .Attribute o f _ => (match plainBase o with
      | true => bnd (ev n sc env o) fun w => getF C.G w f
      | false => bad)
    | .Subscript o (.Slice lo hi none _) _ => bnd (ev n sc env o) fun w => bnd (evO n sc env lo) fun a => bnd (evO n sc env hi) fun b => (match w with | .d x => ofD (sliceD x a b) | _ => bad)
    | .Subscript o i _ => (match notSlice i with
      | true => bnd (ev n sc env o) fun w => bnd (ev n sc env i) fun j => getX w j
      | false => bad)
    | .Call f args [] pos => (match replK f args pos with
      | some (o, c, y, z) => bnd (noEx (ev n sc env o)) fun w => ofD (replD c y z w)
      | none => (match args.all notStar with
      | false => bad
      | true => (match f with
        | .Name x _ => (match glo sc x with
          | false => bad
          | true => (match C.G.fn x, C.G.glb x with
            | some I, true => bnd (evL n sc env args) fun ws => callF C.G C.cl x ws
            | some _, false => bad
            | none, _ => (match args with
              | [] => bad
              | _ :: _ => (match C.G.cls x with
                | some fz => bnd (evL n sc env args) fun ws => make C.G C.cl x fz ws
                | none => (match decide (x = "isinstance") with
                  | true => (match args with
                    | [a, .Name T _] => (match glo sc T && (tyT T).isSome with | true => bnd (ev n sc env a) fun w => (match w with | .d d => ofD ((isiD T d).map D.bl) | _ => bad) | false => bad)
                    | _ => bad)
                  | false => (match decide (x = "len") with
                    | true => (match args with | [a] => bnd (ev n sc env a) fun w => lenW w | _ => bad)
                    | false => (match isBlt x with
                      | true => bnd (evL n sc env args) fun ws => (match datas ws with | some xs => ofD (blt x xs) | none => bad)
                      | false => bad)))))))
        | .Attribute o m ap => (match ap.endLine == pos.line && (plainBase o && decide (args.length < 20)) with
          | true => bnd (noEx (ev n sc env o)) fun w => bnd (kindM C.G w m) fun kd => bnd (evL n sc env args) fun ws => methC C.G C.cl kd w m ws
          | false => bad)
        | _ => bad)))
    | .ListComp el gens cs _ => (match oneGen gens with
      | none => bad
      | some (tg, it, ifs) => (match blkC C.N sc cs ((ownIx C.N cs.names).getD []), ownIx C.N cs.names with
        | true, some own => (match notSetE it && decide (ifs.length ≤ 1) with
          | true => bnd (evI n sc env tg it) fun ys => bnd (lcM (stepM C.N (relS cs sc) tg ifs own env (fun e1 => (match ifs with | [t] => evT n (relS cs sc) e1 t | _ => bad)) (fun e1 => ev n (relS cs sc) e1 el)) ys []) fun xs => ret (.d (.lst xs))
          | false => bad)
        | _, _ => bad))
    | _ => bad
def evL (n : Nat) (sc : Scope) (env : Env) (es : List Expr) : M (List W) := match n with
  | 0 => bad
  | n + 1 => match es with
    | [] => ret []
    | e :: r => (match notStar e with
      | true => bnd (ev n sc env e) fun w => bnd (evL n sc env r) fun ws => ret (w :: ws)
      | false => bad)
def evO (n : Nat) (sc : Scope) (env : Env) (e : Option Expr) : M (Option Int) := match n with
  | 0 => bad
  | n + 1 => match e with
    | none => ret none
    | some e => bnd (ev n sc env e) fun w => (match w with | .d (.int i) => ret (some i) | _ => bad)
/-- and, or as a value -/
def evB (n : Nat) (sc : Scope) (env : Env) (op : BoolOp) (es : List Expr) : M W := match n with
  | 0 => bad
  | n + 1 => match es with
    | [] => bad
    | [e] => ev n sc env e
    | e :: r => bnd (ev n sc env e) fun w => bnd (truM w) fun b => (match op, b with
      | .And, true => evB n sc env op r
      | .And, false => ret w
      | .Or, true => ret w
      | .Or, false => evB n sc env op r)
/-- and, or as a test -/
def evA (n : Nat) (sc : Scope) (env : Env) (op : BoolOp) (es : List Expr) : M Bool := match n with
  | 0 => bad
  | n + 1 => match es with
    | [] => bad
    | [e] => evT n sc env e
    | e :: r => bnd (evT n sc env e) fun b => (match op, b with
      | .And, true => evA n sc env op r
      | .And, false => ret false
      | .Or, true => ret true
      | .Or, false => evA n sc env op r)
def evC (n : Nat) (sc : Scope) (env : Env) (a : Expr) (ops : List CmpOp) (bs : List Expr) : M W := match n with
  | 0 => bad
  | n + 1 => match ops, bs with
    | [.Is], [.Constant .none _ _] => bnd (ev n sc env a) fun w => ret (.d (.bl (isN w)))
    | [.IsNot], [.Constant .none _ _] => bnd (ev n sc env a) fun w => ret (.d (.bl (!isN w)))
    | [op], [b] => (match behindInMarks op b || isIs op with
      | true => bad
      | false => bnd (ev n sc env a) fun u => bnd (ev n sc env b) fun v => (match u, v with | .d x, .d y => ofD ((cmpop op x y).map D.bl) | _, _ => bad))
    | [op, op'], [b, c] => (match lastMarks [op, op'] [b, c] || (isIs op || isIs op') with
      | true => bad
      | false => bnd (ev n sc env a) fun u => bnd (ev n sc env b) fun v => (match u, v with
        | .d x, .d y => (match cmpop op x y with
          | some true => bnd (ev n sc env c) fun w => (match w with | .d z => ofD ((cmpop op' y z).map D.bl) | _ => bad)
          | some false => ret (.d (.bl false))
          | none => bad)
        | _, _ => bad))
    | _, _ => bad
def evT (n : Nat) (sc : Scope) (env : Env) (e : Expr) : M Bool := match n with
  | 0 => bad
  | n + 1 => match e with
    | .UnaryOp .Not a _ => bnd (evT n sc env a) fun b => ret (!b)
    | .BoolOp op es _ => evA n sc env op es
    | .Compare a ops bs _ => toB (evC n sc env a ops bs)
    | .IfExp _ _ _ _ => bad
    | e => bnd (ev n sc env e) fun w => truM w
/-- what a for or a comprehension walks -/
def evI (n : Nat) (sc : Scope) (env : Env) (tg e : Expr) : M (List Y) := match n with
  | 0 => bad
  | n + 1 => match itKind C.G sc tg e with
    | .rng1 a => bnd (ev n sc env a) fun w => (match w with | .d (.int j) => (match decide (j < 1000000) && decide (-1000000 < j) with | true => ret (rangeY 0 j.toNat) | false => bad) | _ => bad)
    | .rng2 a b => bnd (ev n sc env a) fun w => bnd (ev n sc env b) fun v => (match w, v with | .d (.int i), .d (.int j) => (match decide (j < 1000000) && (decide (-1000000 < j) && (decide (i < 1000000) && decide (-1000000 < i))) with | true => ret (rangeY i (j - i).toNat) | false => bad) | _, _ => bad)
    | .enum a => bnd (ev n sc env a) fun w => (match w with | .d (.lst xs) => ret (numY 0 (leafs xs)) | _ => bad)
    | .zip a b => bnd (ev n sc env a) fun w => bnd (ev n sc env b) fun v => (match w, v with | .d (.lst xs), .d (.lst ys) => ret (zipY (leafs xs) (leafs ys)) | _, _ => bad)
    | .val => bnd (ev n sc env e) fun w => itW w
    | .none => bad
end

/-! ### statements -/
/-- a fresh list is laid for a name that holds an object -/
def layM (ws : List W) : M W := fun h => if lenOk ws.length then .ok (.r h.length) (h ++ [.lst ws]) else .no
/-- no comprehension that lets its value go in a way of its own -/
def noComp : Expr → Bool
  | .ListComp _ _ _ _ => false
  | .SetComp _ _ _ _ => false
  | .DictComp _ _ _ _ _ => false
  | _ => true
def listEs (b : Bool) (e : Expr) : Option (List Expr) := match b, e with
  | true, .List es _ => some es
  | _, _ => none
def tsN : List Expr → Option (List Str)
  | [] => some []
  | .Name x _ :: r => (match tsN r with | some l => some (x :: l) | none => none)
  | _ => none
def isLC : Expr → Bool
  | .ListComp _ _ _ _ => true
  | _ => false
def putL (N : List Str) (sc : Scope) (x : Str) (w : W) (env : Env) : Option Env := match loc sc x with
  | true => (match ix x N with | some i => some (env.set i (some w)) | none => none)
  | false => none
/-! targets from the left -/
mutual
def putT (N : List Str) (sc : Scope) (n : Nat) (t : Expr) (d : D) (env : Env) : Option Env := match n with
  | 0 => none
  | n + 1 => match t with
    | .Name x _ => putL N sc x (.d d) env
    | .Tuple ts _ _ => (match d with | .tup ds => putTs N sc n ts ds env | _ => none)
    | _ => none
def putTs (N : List Str) (sc : Scope) (n : Nat) (ts : List Expr) (ds : List D) (env : Env) : Option Env := match n with
  | 0 => none
  | n + 1 => match ts, ds with
    | [], [] => some env
    | t :: ts, d :: ds => (match putT N sc n t d env with | some e => putTs N sc n ts ds e | none => none)
    | _, _ => none
end
/-- how a for goes on -/
def forM (body : Env → MS) (bind : Y → Env → Option Env) : List Y → Env → MS
  | [], env => fun h => .nx env h
  | y :: ys, env => fun h => match bind y env with
    | none => .no
    | some e1 => (match body e1 h with
      | .nx e h' => forM body bind ys e h'
      | .ct e h' => forM body bind ys e h'
      | .bk e h' => .nx e h'
      | .rt w h' => .rt w h'
      | .ex c e h' => .ex c e h'
      | .no => .no)
def whileM (test : Env → M Bool) (body : Env → MS) : Nat → Env → MS
  | 0, _ => fun _ => .no
  | n + 1, env => fun h => match test env h with
    | .no => .no
    | .ex c h' => .ex c env h'
    | .ok false h' => .nx env h'
    | .ok true h' => (match body env h' with
      | .nx e h'' => whileM test body n e h''
      | .ct e h'' => whileM test body n e h''
      | .bk e h'' => .nx e h''
      | .rt w h'' => .rt w h''
      | .ex c e h'' => .ex c e h''
      | .no => .no)
/-- a clause's suite: constants to names -/
def suite (N : List Str) (sc : Scope) : List Stmt → Env → Option Env
  | [], env => some env
  | .Assign [.Name x _] (.Constant c _ _) _ :: r, env => (match constD c with | some d => (match putL N sc x (.d d) env with | some e => suite N sc r e | none => none) | none => none)
  | _, _ => none
def clause (C : Cfg) (sc : Scope) (c : Str) (env : Env) : List ExceptHandler → Option (Option Env)
  | [] => some none
  | .ExceptHandler (some (.Name x _)) none (b :: bs) _ :: r => (match glo sc x && (C.G.exc x && C.G.exc c) with
    | true => (match C.G.sub c x with
      | true => (suite C.N sc (b :: bs) env).map some
      | false => clause C sc c env r)
    | false => none)
  | _ => none
def okH (C : Cfg) (sc : Scope) : ExceptHandler → Bool
  | .ExceptHandler (some (.Name x _)) none (_ :: _) _ => glo sc x && C.G.exc x
  | _ => false
def tryM (C : Cfg) (sc : Scope) (hs : List ExceptHandler) (m : MS) : MS := fun h => match m h with
  | .ex c e h' => (match clause C sc c e hs with
    | some (some e1) => .nx e1 h'
    | some none => .ex c e h'
    | none => .no)
  | r => r
def augOp : Operator → Option Bool
  | .Add => some true
  | .Sub => some false
  | _ => none
def augF (b : Bool) (i j : Int) : Int := match b with
  | true => i + j
  | false => i - j
def augI (b : Bool) (a v : W) : M W := match a, v with
  | .d (.int i), .d (.int j) => ret (.d (.int (augF b i j)))
  | _, _ => bad
def swapN (sc : Scope) (ts vs : List Expr) : Option (Option (List Str)) :=
  if !(ts.length == 2 || ts.length == 3) || vs.length != ts.length then some none
  else if vs.any (fun e => !notStar e) then some none
  else
    let names := ts.filterMap fun t => match t with
      | .Name x p => if sc.names.lookup x == some NameKind.local && p.line == (ts.head?.map (·.pos.line)).getD 0 then some x else none
      | _ => none
    if names.length != ts.length || names.eraseDups.length != names.length then some none
    else if vs.all (foldedForSure 8) then some none
    else if vs.all (constantsAlone 8) then none
    else some (some names)
def ixs (N : List Str) : List Str → Option (List Nat)
  | [] => some []
  | x :: r => match ix x N, ixs N r with
    | some i, some is => some (i :: is)
    | _, _ => none
def setAll : List Nat → List W → Env → Env
  | i :: is, w :: ws, env => setAll is ws (env.set i (some w))
  | _, _, env => env
mutual
def ex (n m : Nat) (sc : Scope) (q : Str) (env : Env) (s : Stmt) : MS := match n with
  | 0 => fun _ => .no
  | n + 1 => match s with
    | .Pass _ => fun h => .nx env h
    | .Break _ => fun h => .bk env h
    | .Continue _ => fun h => .ct env h
    | .Return none _ => fun h => .rt (.d .non) h
    | .Return (some e) _ => exprS (ev C m sc env e) env fun w h => .rt w h
    | .Expr e _ => (match noComp e with
      | true => exprS (ev C m sc env e) env fun _ h => .nx env h
      | false => fun _ => .no)
    | .Assign [.Name x _] e _ => (match listEs (C.G.mutb q x) e with
      | some es => exprS (bnd (evL C m sc env es) layM) env fun w h => (match putL C.N sc x w env with | some e1 => .nx e1 h | none => .no)
      | none => (match noComp e || (isLC e && (loc sc x && (ix x C.N).isSome)) with
        | true => exprS (ev C m sc env e) env fun w h => (match putL C.N sc x w env with | some e1 => .nx e1 h | none => .no)
        | false => fun _ => .no))
    | .Assign [.Attribute o f _] e _ => (match listEs (C.G.mutb ("." : Str) f) e with
      | some es => exprS (bnd (evL C m sc env es) layM) env fun w => exprS (bnd (ev C m sc env o) fun u => setF C.G u f w) env fun _ h => .nx env h
      | none => (match noComp e with
        | true => exprS (ev C m sc env e) env fun w => exprS (bnd (ev C m sc env o) fun u => setF C.G u f w) env fun _ h => .nx env h
        | false => fun _ => .no))
    | .Assign [.Subscript o i _] e _ => (match noComp e && notSlice i with
      | true => exprS (ev C m sc env e) env fun w => exprS (bnd (ev C m sc env o) fun u => bnd (ev C m sc env i) fun j => setX u j w) env fun _ h => .nx env h
      | false => fun _ => .no)
    | .Assign [.Tuple ts _ _] (.Tuple vs k2 p2) _ => (match swapN sc ts vs with
      | none => fun _ => .no
      | some (some names) => (match ixs C.N names with
        | some is => (match decide (tsN ts = some names) && (names.all (isLoc sc) && decide is.Nodup) with
          | true => exprS (evL C m sc env vs) env fun ws h => (match decide (ws.length = is.length) with | true => .nx (setAll is ws env) h | false => .no)
          | false => fun _ => .no)
        | none => fun _ => .no)
      | some none => exprS (ev C m sc env (.Tuple vs k2 p2)) env fun w h => (match w with
        | .d (.tup ds) => (match putTs C.N sc 40 ts ds env with | some e1 => .nx e1 h | none => .no)
        | _ => .no))
    | .Assign [.Tuple ts _ _] e _ => (match noComp e with
      | true => exprS (ev C m sc env e) env fun w h => (match w with
        | .d (.tup ds) => (match putTs C.N sc 40 ts ds env with | some e1 => .nx e1 h | none => .no)
        | _ => .no)
      | false => fun _ => .no)
    | .AugAssign (.Name x _) op e _ => (match loc sc x, augOp op with
      | true, some b => exprS (bnd (look C.N env x) fun a => bnd (ev C m sc env e) fun v => augI b a v) env fun w h => (match putL C.N sc x w env with | some e1 => .nx e1 h | none => .no)
      | _, _ => fun _ => .no)
    | .AugAssign (.Attribute o f _) op (.Constant (.int n) _ _) _ => (match augOp op with
      | some b => exprS (bnd (ev C m sc env o) fun u => bnd (getF C.G u f) fun a => bnd (augI b a (.d (.int n))) fun w => setF C.G u f w) env fun _ h => .nx env h
      | none => fun _ => .no)
    | .If t a b _ => exprS (evT C m sc env t) env fun c => (match c with | true => exB n m sc q env a | false => exB n m sc q env b)
    | .While t b [] _ => whileM (fun e => evT C m sc e t) (fun e => exB n m sc q e b) 1000000 env
    | .For tg it b [] _ => (match notSetE it with | false => fun _ => .no | true => exprS (evI C m sc env tg it) env fun ys => forM (fun e => exB n m sc q e b) (bindY C.N (loc sc) 4 tg) ys env)
    | .Raise (some (.Call (.Name x _) [.Constant (.str _) _ _] [] _)) none _ => (match glo sc x && C.G.exc x with
      | true => fun h => .ex x env h
      | false => fun _ => .no)
    | .Try b (h0 :: hs) [] [] _ => (match (h0 :: hs).all (okH C sc) with
      | true => tryM C sc (h0 :: hs) (exB n m sc q env b)
      | false => fun _ => .no)
    | _ => fun _ => .no
def exB (n m : Nat) (sc : Scope) (q : Str) (env : Env) (ss : List Stmt) : MS := match n with
  | 0 => fun _ => .no
  | n + 1 => match ss with
    | [] => fun h => .nx env h
    | [s] => ex n m sc q env s
    | s :: r => seqS (ex n m sc q env s) fun e => exB n m sc q e r
end
end
/-- a def is run -/
def startE (N : List Str) (ws : List W) : Env := ws.map some ++ List.replicate (N.length - ws.length) none
def run (G : Gam) (cl : Cl) (I : FnI) (ws : List W) : M W := fun h => match decide (ws.length = I.ps.length), exB ⟨G, cl, I.N⟩ 60 60 I.sc I.qual (startE I.N ws) I.body h with
  | true, .rt w h' => .ok w h'
  | true, .nx _ h' => .ok (.d .non) h'
  | true, .ex c _ h' => .ex c h'
  | _, _ => .no
def call (G : Gam) : Nat → Cl
  | 0 => fun _ _ _ => .no
  | k + 1 => fun q ws => match G.fn q with
    | some I => run G (call G k) I ws
    | none => fun _ => .no
end KR
/-! KR: what the interpreter's data stand for in the model's heap. -/
namespace KR
open PySem PySem.Spec PyProof.Rows L2

def Sub (F H : Hp) : Prop := ∀ a o, F a = some o → H a = some o
theorem Sub.refl (F : Hp) : Sub F F := fun _ _ h => h
theorem Sub.trans {A B C : Hp} (x : Sub A B) (y : Sub B C) : Sub A C := fun a o h => y a o (x a o h)
theorem Sub.none {F H : Hp} (x : Sub F H) {a : Addr} (h : H a = Option.none) : F a = Option.none := by
  cases e : F a with
  | none => rfl
  | some o => rw [x a o e] at h; cases h
theorem Sub.upd {F H : Hp} (x : Sub F H) {a : Addr} (o : HO) : Sub (upd F a o) (upd H a o) := fun b u e => by
  by_cases c : b = a
  · subst c; rw [upd_same] at e ⊢; exact e
  · rw [upd_ne c] at e ⊢; exact x b u e
theorem Sub.new {F : Hp} {a : Addr} (h : F a = Option.none) (o : HO) : Sub F (L2.upd F a o) := fun b u e => by
  rw [upd_ne (ne_of_none e h)]; exact e
theorem Sub.rd {F H : Hp} (x : Sub F H) {a : Addr} {u : HO} (r : Rd F a u) : Rd H a u := by
  rcases r with r | ⟨o, r⟩
  · exact .inl (x _ _ r)
  · exact .inr ⟨o, x _ _ r⟩
theorem Sub.l {K : PySem.W.Frag} {F H : Hp} (x : Sub F H) {a : Addr} {vs : List V} (r : SqL K F a vs) : SqL K H a vs := by
  rcases r with r | r
  · exact .inl (x.rd r)
  · exact .inr r

/-- a tuple whose own object is known to have no dict -/
def GT (K : PySem.W.Frag) (F : Hp) (a : Addr) (vs : List V) : Prop :=
  (∃ o, F a = some (.frz o (.tup vs)) ∧ o.cls = .type "tuple" ∧ o.dict = none) ∨
    ∃ (o : Obj) (its : Array Value) (n : Nat), K.lookup a = some o ∧ o.cls = .type "tuple" ∧ o.dict = none ∧ o.data = .seq its n ∧ its.size ≤ sizeLine ∧ Vals vs its.toList
theorem GT.t {K : PySem.W.Frag} {F : Hp} {a : Addr} {vs : List V} (g : GT K F a vs) : SqT K F a vs := by
  rcases g with ⟨o, e, _⟩ | ⟨o, its, n, a1, a2, _, a3, a4, a5⟩
  · exact .inl (.inr ⟨o, e⟩)
  · exact .inr ⟨o, its, n, a1, a2, a3, a4, a5⟩
theorem GT.mono {K : PySem.W.Frag} {F H : Hp} (x : Sub F H) {a : Addr} {vs : List V} (g : GT K F a vs) : GT K H a vs := by
  rcases g with ⟨o, e, r⟩ | r
  · exact .inl ⟨o, x _ _ e, r⟩
  · exact .inr r

mutual
def Rep (K : PySem.W.Frag) (F : Hp) : D → V → Prop
  | .non, v => v = .non
  | .bl b, v => v = .bl b
  | .int i, v => v = .int i
  | .str s, v => v = .str (St s) ∧ okT s = true
  | .tup xs, v => ∃ a vs, v = .ref a ∧ GT K F a vs ∧ RepL K F xs vs
  | .lst xs, v => ∃ a vs, v = .ref a ∧ F a = some (.lst vs) ∧ RepL K F xs vs
  | .ins c ns xs, v => ∃ a dx vs, v = .ref a ∧ F a = some (.ins (He.ga K c) dx (ns.zip vs)) ∧ RepL K F xs vs ∧ ns.length = xs.length
  | .scr ns, v => ∃ a, v = .ref a ∧ SqL K F a (ns.map V.int)
def RepL (K : PySem.W.Frag) (F : Hp) : List D → List V → Prop
  | [], vs => vs = []
  | x :: xs, vs => ∃ v r, vs = v :: r ∧ Rep K F x v ∧ RepL K F xs r
end
mutual
theorem Rep.mono {K : PySem.W.Frag} {F H : Hp} (x : Sub F H) : ∀ {d : D} {v : V}, Rep K F d v → Rep K H d v
  | .non, _, h => h
  | .bl _, _, h => h
  | .int _, _, h => h
  | .str _, _, h => h
  | .tup _, _, ⟨a, vs, e, g, r⟩ => ⟨a, vs, e, g.mono x, RepL.mono x r⟩
  | .lst _, _, ⟨a, vs, e, g, r⟩ => ⟨a, vs, e, x _ _ g, RepL.mono x r⟩
  | .ins _ _ _, _, ⟨a, dx, vs, e, g, r, l⟩ => ⟨a, dx, vs, e, x _ _ g, RepL.mono x r, l⟩
  | .scr _, _, ⟨a, e, g⟩ => ⟨a, e, x.l g⟩
theorem RepL.mono {K : PySem.W.Frag} {F H : Hp} (x : Sub F H) : ∀ {ds : List D} {vs : List V}, RepL K F ds vs → RepL K H ds vs
  | [], _, h => h
  | _ :: _, _, ⟨v, r, e, a, b⟩ => ⟨v, r, e, Rep.mono x a, RepL.mono x b⟩
end
section
variable {K : PySem.W.Frag} {F H : Hp}
theorem RepL.length : ∀ {ds : List D} {vs : List V}, RepL K F ds vs → ds.length = vs.length
  | [], _, h => by cases h; rfl
  | _ :: _, _, ⟨v, r, e, _, b⟩ => by subst e; rw [List.length_cons, List.length_cons, RepL.length b]
theorem RepL.get : ∀ {ds : List D} {vs : List V} {i : Nat} {d : D}, RepL K F ds vs → ds[i]? = some d → ∃ v, vs[i]? = some v ∧ Rep K F d v
  | [], _, _, _, _, e => by simp at e
  | x :: xs, _, 0, d, ⟨v, r, e1, a, b⟩, e => by
    subst e1
    have e2 : x = d := by simpa using e
    subst e2
    exact ⟨v, rfl, a⟩
  | x :: xs, _, i + 1, d, ⟨v, r, e1, a, b⟩, e => by
    subst e1
    obtain ⟨u, h1, h2⟩ := RepL.get (i := i) (d := d) b (by simpa using e)
    exact ⟨u, by simpa using h1, h2⟩
theorem RepL.append : ∀ {xs ys : List D} {us vs : List V}, RepL K F xs us → RepL K F ys vs → RepL K F (xs ++ ys) (us ++ vs)
  | [], _, _, _, h, q => by cases h; exact q
  | _ :: _, _, _, _, ⟨v, r, e, a, b⟩, q => by subst e; exact ⟨v, _, rfl, a, RepL.append b q⟩
theorem RepL.take : ∀ (n : Nat) {xs : List D} {us : List V}, RepL K F xs us → RepL K F (xs.take n) (us.take n)
  | 0, _, _, _ => by simp [RepL]
  | n + 1, [], _, h => by cases h; simp [RepL]
  | n + 1, _ :: _, _, ⟨v, r, e, a, b⟩ => by subst e; exact ⟨v, _, rfl, a, RepL.take n b⟩
theorem RepL.drop : ∀ (n : Nat) {xs : List D} {us : List V}, RepL K F xs us → RepL K F (xs.drop n) (us.drop n)
  | 0, _, _, h => h
  | n + 1, [], _, h => by cases h; simp [RepL]
  | n + 1, _ :: _, _, ⟨v, r, e, a, b⟩ => by subst e; exact RepL.drop n b
theorem RepL.flatRep (n : Nat) {xs : List D} {us : List V} (h : RepL K F xs us) : RepL K F (List.replicate n xs).flatten (List.replicate n us).flatten := by
  induction n with
  | zero => simp [RepL]
  | succ n ih => rw [List.replicate_succ, List.replicate_succ, List.flatten_cons, List.flatten_cons]; exact h.append ih
theorem RepL.isEmpty {xs : List D} {us : List V} (h : RepL K F xs us) : us.isEmpty = xs.isEmpty := by
  cases xs with
  | nil => cases h; rfl
  | cons x xs => obtain ⟨v, r, e, _⟩ := h; subst e; rfl
theorem RepL.reverse {xs : List D} : ∀ {us : List V}, RepL K F xs us → RepL K F xs.reverse us.reverse := by
  induction xs with
  | nil => intro us h; cases h; simp [RepL]
  | cons x xs ih =>
    intro us h
    obtain ⟨v, r, e, a, b⟩ := h
    subst e
    rw [List.reverse_cons, List.reverse_cons]
    exact (ih b).append ⟨v, [], rfl, a, rfl⟩
end

/-! ### values, objects -/
def RepW (K : PySem.W.Frag) (F : Hp) (ρ : List Addr) : W → V → Prop
  | .d x, v => Rep K F x v
  | .r i, v => ∃ a, ρ[i]? = some a ∧ v = .ref a
def RepWs (K : PySem.W.Frag) (F : Hp) (ρ : List Addr) : List W → List V → Prop
  | [], vs => vs = []
  | x :: xs, vs => ∃ v r, vs = v :: r ∧ RepW K F ρ x v ∧ RepWs K F ρ xs r
def RepO (K : PySem.W.Frag) (F : Hp) (ρ : List Addr) : Ob → HO → Prop
  | .lst ws, o => ∃ vs, o = .lst vs ∧ RepWs K F ρ ws vs
  | .dic ks ws, o => ∃ vs, o = .dK (ks.zip vs) ∧ RepWs K F ρ ws vs ∧ ks.length = ws.length ∧ ks.Nodup
  | .ins c ns ws, o => ∃ dx vs, o = .ins (He.ga K c) dx (ns.zip vs) ∧ RepWs K F ρ ws vs ∧ ns.length = ws.length
theorem pre_get {α : Type} {a b : List α} (p : a <+: b) {i : Nat} {x : α} (h : a[i]? = some x) : b[i]? = some x := by
  obtain ⟨t, e⟩ := p
  subst e
  rw [List.getElem?_append_left (List.getElem?_eq_some_iff.mp h).1]
  exact h
section
variable {K : PySem.W.Frag} {F F' : Hp} {ρ ρ' : List Addr}
theorem RepW.mono (x : Sub F F') (p : ρ <+: ρ') {w : W} {v : V} (h : RepW K F ρ w v) : RepW K F' ρ' w v := by
  cases w with
  | d d => exact Rep.mono x h
  | r i => obtain ⟨a, e, q⟩ := h; exact ⟨a, pre_get p e, q⟩
theorem RepWs.mono (x : Sub F F') (p : ρ <+: ρ') : ∀ {ws : List W} {vs : List V}, RepWs K F ρ ws vs → RepWs K F' ρ' ws vs
  | [], _, h => h
  | _ :: _, _, ⟨v, r, e, a, b⟩ => ⟨v, r, e, a.mono x p, RepWs.mono x p b⟩
theorem RepWs.length : ∀ {ws : List W} {vs : List V}, RepWs K F ρ ws vs → ws.length = vs.length
  | [], _, h => by cases h; rfl
  | _ :: _, _, ⟨v, r, e, _, b⟩ => by subst e; rw [List.length_cons, List.length_cons, RepWs.length b]
theorem RepWs.datas : ∀ {ws : List W} {ds : List D} {vs : List V}, datas ws = some ds → RepWs K F ρ ws vs → RepL K F ds vs
  | [], ds, _, e, h => by
    have e1 : ds = [] := by simpa [KR.datas] using e.symm
    subst e1
    exact h
  | .d x :: ws, ds, _, e, ⟨v, r, e1, a, b⟩ => by
    cases q : KR.datas ws with
    | none => simp [KR.datas, q] at e
    | some xs =>
      have e2 : x :: xs = ds := by simpa [KR.datas, q] using e
      subst e2
      exact ⟨v, r, e1, a, RepWs.datas q b⟩
  | .r i :: ws, _, _, e, _ => by simp [KR.datas] at e
theorem RepWs.ofL : ∀ {ds : List D} {vs : List V}, RepL K F ds vs → RepWs K F ρ (ds.map W.d) vs
  | [], _, h => h
  | _ :: _, _, ⟨v, r, e, a, b⟩ => ⟨v, r, e, a, RepWs.ofL b⟩
theorem datas_map : ∀ {ws : List W} {ds : List D}, datas ws = some ds → ws = ds.map W.d
  | [], ds, e => by
    have e1 : ds = [] := by simpa [datas] using e.symm
    subst e1; rfl
  | .d x :: ws, ds, e => by
    cases q : datas ws with
    | none => simp [datas, q] at e
    | some xs =>
      have e2 : x :: xs = ds := by simpa [datas, q] using e
      subst e2
      rw [List.map_cons, ← datas_map q]
  | .r i :: ws, _, e => by simp [datas] at e
theorem RepWs.get : ∀ {ws : List W} {vs : List V} {i : Nat} {w : W}, RepWs K F ρ ws vs → ws[i]? = some w → ∃ v, vs[i]? = some v ∧ RepW K F ρ w v
  | [], _, _, _, _, e => by simp at e
  | x :: xs, _, 0, d, ⟨v, r, e1, a, b⟩, e => by
    subst e1
    have e2 : x = d := by simpa using e
    subst e2
    exact ⟨v, rfl, a⟩
  | x :: xs, _, i + 1, d, ⟨v, r, e1, a, b⟩, e => by
    subst e1
    obtain ⟨u, h1, h2⟩ := RepWs.get (i := i) (w := d) b (by simpa using e)
    exact ⟨u, by simpa using h1, h2⟩
theorem RepWs.append : ∀ {xs ys : List W} {us vs : List V}, RepWs K F ρ xs us → RepWs K F ρ ys vs → RepWs K F ρ (xs ++ ys) (us ++ vs)
  | [], _, _, _, h, q => by cases h; exact q
  | _ :: _, _, _, _, ⟨v, r, e, a, b⟩, q => by subst e; exact ⟨v, _, rfl, a, RepWs.append b q⟩
theorem RepWs.set {x : W} {v : V} (q : RepW K F ρ x v) : ∀ {ws : List W} {vs : List V} (i : Nat), RepWs K F ρ ws vs → RepWs K F ρ (ws.set i x) (vs.set i v)
  | [], _, _, h => by cases h; simp [RepWs]
  | _ :: _, _, 0, ⟨v, r, e, a, b⟩ => by subst e; exact ⟨_, r, rfl, q, b⟩
  | _ :: _, _, i + 1, ⟨v, r, e, a, b⟩ => by subst e; exact ⟨v, _, rfl, a, RepWs.set q i b⟩
theorem RepWs.dropLast : ∀ {ws : List W} {vs : List V}, RepWs K F ρ ws vs → RepWs K F ρ ws.dropLast vs.dropLast
  | [], _, h => by cases h; simp [RepWs]
  | [_], _, ⟨v, r, e, a, b⟩ => by cases b; subst e; simp [RepWs]
  | x :: y :: ws, _, ⟨v, r, e, a, b⟩ => by
    subst e
    obtain ⟨v2, r2, e2, _⟩ := id b
    subst e2
    exact ⟨v, _, rfl, a, RepWs.dropLast b⟩
theorem RepWs.isEmpty {xs : List W} {us : List V} (h : RepWs K F ρ xs us) : us.isEmpty = xs.isEmpty := by
  cases xs with
  | nil => cases h; rfl
  | cons x xs => obtain ⟨v, r, e, _⟩ := h; subst e; rfl
theorem RepO.mono (x : Sub F F') (p : ρ <+: ρ') {b : Ob} {o : HO} (h : RepO K F ρ b o) : RepO K F' ρ' b o := by
  cases b with
  | lst ws => obtain ⟨vs, e, r⟩ := h; exact ⟨vs, e, r.mono x p⟩
  | dic ks ws => obtain ⟨vs, e, r, l⟩ := h; exact ⟨vs, e, r.mono x p, l⟩
  | ins c ns ws => obtain ⟨dx, vs, e, r, l⟩ := h; exact ⟨dx, vs, e, r.mono x p, l⟩
end

/-! ### the state -/
structure Wd (K : PySem.W.Frag) (F : Hp) (ρ : List Addr) (h : Hs) (H : Hp) : Prop where
  sub : Sub F H
  len : ρ.length = h.length
  nd : ρ.Nodup
  free : ∀ a ∈ ρ, F a = none
  obs : ∀ (i : Nat) (b : Ob), h[i]? = some b → ∃ a o, ρ[i]? = some a ∧ H a = some o ∧ RepO K F ρ b o
structure Ext (F : Hp) (ρ : List Addr) (H : Hp) (F' : Hp) (ρ' : List Addr) (H' : Hp) : Prop where
  sub : Sub F F'
  pre : ρ <+: ρ'
  fr : ∀ a o, H a = some o → a ∉ ρ → H' a = some o
  fs : ∀ a, F a = none → H a ≠ none → F' a = none
  rs : ∀ a ∈ ρ', a ∉ ρ → H a = none
  al : ∀ a, H a ≠ none → H' a ≠ none
theorem Ext.refl (F : Hp) (ρ : List Addr) (H : Hp) : Ext F ρ H F ρ H := ⟨.refl F, List.prefix_refl ρ, fun _ _ h _ => h, fun _ h _ => h, fun _ h q => absurd h q, fun _ h => h⟩
theorem Ext.trans {F F1 F2 H H1 H2 : Hp} {ρ ρ1 ρ2 : List Addr} (x : Ext F ρ H F1 ρ1 H1) (y : Ext F1 ρ1 H1 F2 ρ2 H2) : Ext F ρ H F2 ρ2 H2 where
  sub := x.sub.trans y.sub
  pre := x.pre.trans y.pre
  fr := fun a o h n => y.fr a o (x.fr a o h n) fun q => by rw [x.rs a q n] at h; cases h
  fs := fun a h n => y.fs a (x.fs a h n) (x.al a n)
  rs := fun a h n => by
    by_cases q : a ∈ ρ1
    · exact x.rs a q n
    · cases e : H a with
      | none => rfl
      | some o => exact absurd (y.rs a h q) (x.al a (by rw [e]; simp))
  al := fun a h => y.al a (x.al a h)
section
variable {K : PySem.W.Frag} {F H : Hp} {ρ : List Addr} {h : Hs}
/-- a new frozen object -/
theorem Ext.new {a : Addr} (n : H a = none) (f : Sub F H) (o : HO) : Ext F ρ H (upd F a o) ρ (upd H a o) := by
  refine ⟨.new (f.none n) o, List.prefix_refl ρ, fun b u e _ => ?_, fun b e q => ?_, fun _ e q => absurd e q, fun b q => ?_⟩
  · rw [upd_ne (ne_of_none e n)]; exact e
  · have : b ≠ a := fun z => q (by rw [z]; exact n)
    rw [upd_ne this]; exact e
  · by_cases c : b = a
    · subst c; rw [upd_same]; simp
    · rw [upd_ne c]; exact q
theorem Wd.new (x : Wd K F ρ h H) {a : Addr} (n : H a = none) (o : HO) : Wd K (upd F a o) ρ h (upd H a o) := by
  have fa := x.sub.none n
  have key : ∀ b ∈ ρ, b ≠ a := fun b hb z => by
    subst z
    obtain ⟨i, hi⟩ := List.mem_iff_getElem?.mp hb
    have hl := (List.getElem?_eq_some_iff.mp hi).1
    rw [x.len] at hl
    obtain ⟨a', o', e1, e2, _⟩ := x.obs i h[i] (List.getElem?_eq_getElem hl)
    rw [hi] at e1; cases e1
    rw [n] at e2; cases e2
  refine ⟨x.sub.upd o, x.len, x.nd, fun b hb => ?_, fun i b e => ?_⟩
  · rw [upd_ne (key b hb)]; exact x.free b hb
  · obtain ⟨a', o', e1, e2, r⟩ := x.obs i b e
    refine ⟨a', o', e1, ?_, r.mono (.new fa o) (List.prefix_refl ρ)⟩
    rw [upd_ne (key a' (List.mem_of_getElem? e1))]; exact e2
theorem Wd.alive (x : Wd K F ρ h H) {a : Addr} (ha : a ∈ ρ) : H a ≠ none := by
  obtain ⟨i, hi⟩ := List.mem_iff_getElem?.mp ha
  have hl := (List.getElem?_eq_some_iff.mp hi).1
  rw [x.len] at hl
  obtain ⟨a', o', e1, e2, _⟩ := x.obs i h[i] (List.getElem?_eq_getElem hl)
  rw [hi] at e1; cases e1
  rw [e2]; simp
/-- a new mutable object -/
theorem Wd.push (x : Wd K F ρ h H) {a : Addr} (n : H a = none) {b : Ob} {o : HO} (r : RepO K F (ρ ++ [a]) b o) : Wd K F (ρ ++ [a]) (h ++ [b]) (upd H a o) := by
  have fa := x.sub.none n
  have na : a ∉ ρ := fun q => x.alive q n
  refine ⟨fun c u e => ?_, by simp [x.len], ?_, fun c hc => ?_, fun i c e => ?_⟩
  · rw [upd_ne (ne_of_none e fa)]; exact x.sub c u e
  · rw [List.nodup_append]
    exact ⟨x.nd, by simp, fun c hc d hd z => na (by have : d = a := by simpa using hd
                                                    rw [← this, ← z]; exact hc)⟩
  · rcases List.mem_append.mp hc with hc | hc
    · exact x.free c hc
    · have : c = a := by simpa using hc
      rw [this]; exact fa
  · by_cases hl : i < h.length
    · rw [List.getElem?_append_left hl] at e
      obtain ⟨a', o', e1, e2, q⟩ := x.obs i c e
      refine ⟨a', o', pre_get (List.prefix_append ρ [a]) e1, ?_, q.mono (.refl F) (List.prefix_append ρ [a])⟩
      rw [upd_ne (ne_of_none e2 n)]; exact e2
    · rw [List.getElem?_append_right (by omega)] at e
      have hi : i - h.length = 0 := by
        cases q : i - h.length with
        | zero => rfl
        | succ m => rw [q] at e; simp at e
      rw [hi] at e
      have ec : b = c := by simpa using e
      subst ec
      refine ⟨a, o, ?_, upd_same, r⟩
      rw [List.getElem?_append_right (by rw [x.len]; omega), show i - ρ.length = 0 by rw [x.len]; omega]
      rfl
theorem Ext.push (x : Wd K F ρ h H) {a : Addr} (n : H a = none) (o : HO) : Ext F ρ H F (ρ ++ [a]) (upd H a o) := by
  refine ⟨.refl F, List.prefix_append ρ [a], fun b u e _ => ?_, fun b e _ => e, fun b e q => ?_, fun b q => ?_⟩
  · rw [upd_ne (ne_of_none e n)]; exact e
  · rcases List.mem_append.mp e with e | e
    · exact absurd e q
    · have : b = a := by simpa using e
      rw [this]; exact n
  · by_cases c : b = a
    · subst c; rw [upd_same]; simp
    · rw [upd_ne c]; exact q
/-- a mutable object is changed -/
theorem Wd.set (x : Wd K F ρ h H) {i : Nat} {a : Addr} (e : ρ[i]? = some a) {b : Ob} {o : HO} (r : RepO K F ρ b o) : Wd K F ρ (h.set i b) (upd H a o) := by
  have ha := List.mem_of_getElem? e
  have fa := x.free a ha
  refine ⟨fun c u q => ?_, by simp [x.len], x.nd, x.free, fun j c q => ?_⟩
  · rw [upd_ne (ne_of_none q fa)]; exact x.sub c u q
  · by_cases hj : j = i
    · subst hj
      rw [List.getElem?_set_self' ] at q
      have hl := (List.getElem?_eq_some_iff.mp e).1
      rw [x.len] at hl
      rw [List.getElem?_eq_getElem hl] at q
      have eb : b = c := by simpa using q
      subst eb
      exact ⟨a, o, e, upd_same, r⟩
    · rw [List.getElem?_set_ne (Ne.symm hj)] at q
      obtain ⟨a', o', e1, e2, q'⟩ := x.obs j c q
      refine ⟨a', o', e1, ?_, q'⟩
      have : a' ≠ a := fun z => by
        subst z
        obtain ⟨h1, h2⟩ := List.getElem?_eq_some_iff.mp e
        obtain ⟨h3, h4⟩ := List.getElem?_eq_some_iff.mp e1
        exact hj ((List.getElem_inj x.nd).mp (h4.trans h2.symm))
      rw [upd_ne this]; exact e2
theorem Ext.set {i : Nat} {a : Addr} (e : ρ[i]? = some a) (o : HO) : Ext F ρ H F ρ (upd H a o) := by
  refine ⟨.refl F, List.prefix_refl ρ, fun b u q n => ?_, fun b q _ => q, fun b q n => absurd q n, fun b q => ?_⟩
  · have : b ≠ a := fun z => n (by rw [z]; exact List.mem_of_getElem? e)
    rw [upd_ne this]; exact q
  · by_cases c : b = a
    · subst c; rw [upd_same]; simp
    · rw [upd_ne c]; exact q
end
/-- what the slots hold -/
def EnvR (K : PySem.W.Frag) (F : Hp) (ρ : List Addr) (env : Env) (σ : L2.St) : Prop := env.length = σ.length ∧ ∀ (i : Nat) (w : W), env[i]? = some (some w) → ∃ v, σ[i]? = some (some v) ∧ RepW K F ρ w v
section
variable {K : PySem.W.Frag} {F F' : Hp} {ρ ρ' : List Addr} {env : Env} {σ : L2.St}
theorem EnvR.mono (x : Sub F F') (p : ρ <+: ρ') (h : EnvR K F ρ env σ) : EnvR K F' ρ' env σ := ⟨h.1, fun i w e => let ⟨v, a, b⟩ := h.2 i w e; ⟨v, a, b.mono x p⟩⟩
theorem EnvR.set {i : Nat} {w : W} {v : V} (h : EnvR K F ρ env σ) (q : RepW K F ρ w v) : EnvR K F ρ (env.set i (some w)) (σ.set i (some v)) := by
  refine ⟨by simp [h.1], fun j u e => ?_⟩
  by_cases c : j = i
  · subst c
    have hl : j < env.length := by
      have := (List.getElem?_eq_some_iff.mp e).1
      simpa using this
    rw [List.getElem?_set_self hl] at e
    have e1 : w = u := by simpa using e
    subst e1
    exact ⟨v, List.getElem?_set_self (by rw [← h.1]; exact hl), q⟩
  · rw [List.getElem?_set_ne (Ne.symm c)] at e
    rw [List.getElem?_set_ne (Ne.symm c)]
    exact h.2 j u e
theorem EnvR.none {i : Nat} (h : EnvR K F ρ env σ) : EnvR K F ρ (env.set i none) (σ.set i none) := by
  refine ⟨by simp [h.1], fun j u e => ?_⟩
  by_cases c : j = i
  · subst c
    have hl : j < env.length := by
      have := (List.getElem?_eq_some_iff.mp e).1
      simpa using this
    rw [List.getElem?_set_self hl] at e
    cases e
  · rw [List.getElem?_set_ne (Ne.symm c)] at e
    rw [List.getElem?_set_ne (Ne.symm c)]
    exact h.2 j u e
theorem EnvR.wipe (h : EnvR K F ρ env σ) : ∀ vs : List Nat, EnvR K F ρ (wipeE env vs) (wipe σ vs)
  | [] => h
  | v :: vs => (EnvR.wipe h vs).none
end
end KR
/-! KR: what the interpreter needs to know of a program, read off its statements. -/
namespace KR
open PySem L2

def addN (N : List Str) (xs : List Str) : List Str := xs.foldl (fun N x => if decide (x ∈ N) then N else N ++ [x]) N
def ownNames (ns : List (Str × NameKind)) : List Str := ns.filterMap fun p => match p.2 with
  | .local => some p.1
  | .cell => some p.1
  | _ => none
mutual
/-- the own names of all comprehensions within -/
def cnE (n : Nat) (e : Expr) : List Str := match n with
  | 0 => []
  | n + 1 => match e with
    | .BoolOp _ es _ => cnL n es
    | .BinOp a _ b _ => cnE n a ++ cnE n b
    | .UnaryOp _ a _ => cnE n a
    | .IfExp a b c _ => cnE n a ++ (cnE n b ++ cnE n c)
    | .Dict _ vs _ => cnL n vs
    | .ListComp a gs sc _ => (ownNames sc.names).filter (fun x => !decide (x = (".0" : Str))) ++ (cnE n a ++ cnG n gs)
    | .Compare a _ bs _ => cnE n a ++ cnL n bs
    | .Call f as _ _ => cnE n f ++ cnL n as
    | .Attribute a _ _ => cnE n a
    | .Subscript a b _ => cnE n a ++ cnE n b
    | .List es _ => cnL n es
    | .Tuple es _ _ => cnL n es
    | .Slice a b c _ => cnO n a ++ (cnO n b ++ cnO n c)
    | _ => []
def cnL (n : Nat) (es : List Expr) : List Str := match n with
  | 0 => []
  | n + 1 => match es with
    | [] => []
    | e :: r => cnE n e ++ cnL n r
def cnO (n : Nat) (e : Option Expr) : List Str := match n with
  | 0 => []
  | n + 1 => match e with
    | none => []
    | some e => cnE n e
def cnG (n : Nat) (gs : List Comprehension) : List Str := match n with
  | 0 => []
  | n + 1 => match gs with
    | [] => []
    | ⟨_, it, ifs, _⟩ :: r => cnE n it ++ (cnL n ifs ++ cnG n r)
end
mutual
def cnS (n : Nat) (s : Stmt) : List Str := match n with
  | 0 => []
  | n + 1 => match s with
    | .Return (some e) _ => cnE 60 e
    | .Expr e _ => cnE 60 e
    | .Assign ts e _ => cnL 60 ts ++ cnE 60 e
    | .AugAssign t _ e _ => cnE 60 t ++ cnE 60 e
    | .If t a b _ => cnE 60 t ++ (cnB n a ++ cnB n b)
    | .While t a _ _ => cnE 60 t ++ cnB n a
    | .For _ i a _ _ => cnE 60 i ++ cnB n a
    | .Try a hs _ _ _ => cnB n a
    | _ => []
def cnB (n : Nat) (ss : List Stmt) : List Str := match n with
  | 0 => []
  | n + 1 => match ss with
    | [] => []
    | s :: r => cnS n s ++ cnB n r
end
def argNames (a : Arguments) : List Str := a.args.map fun x => x.arg
def mkFn (q : Str) (a : Arguments) (b : List Stmt) (sc : Scope) : FnI := ⟨q, argNames a, addN (addN (argNames a) (ownNames sc.names)) (cnB 60 b), sc, b⟩
def methL (c : Str) : List Stmt → List (Str × FnI)
  | [] => []
  | .FunctionDef n a b _ _ _ sc _ _ _ :: r => (c ++ ("." : Str) ++ n, mkFn (c ++ ("." : Str) ++ n) a b sc) :: methL c r
  | _ :: r => methL c r
def fnL : List Stmt → List (Str × FnI)
  | [] => []
  | .FunctionDef n a b _ _ _ sc _ _ _ :: r => (n, mkFn n a b sc) :: fnL r
  | .ClassDef c _ _ b _ _ _ _ _ _ _ :: r => methL c b ++ fnL r
  | _ :: r => fnL r
def conE : Nat → Expr → Option D
  | 0, _ => none
  | n + 1, e => match e with
    | .Constant c _ _ => constD c
    | .Tuple es _ _ => (es.foldr (fun e acc => match conE n e, acc with | some d, some ds => some (d :: ds) | _, _ => none) (some [])).map D.tup
    | _ => none
def conL : List Stmt → List (Str × D)
  | [] => []
  | .Assign [.Name x _] e _ :: r => if decide (x = ("__name__" : Str)) then conL r else (match conE 5 e with | some d => (x, d) :: conL r | none => conL r)
  | _ :: r => conL r
/-- own exceptions, each with those it is one of -/
def supL : List Stmt → List (Str × List Str) → List (Str × List Str)
  | [], acc => acc
  | .ClassDef c [.Name b _] _ _ _ _ _ _ _ _ _ :: r, acc => if decide (b = ("ValueError" : Str)) then supL r (acc ++ [(c, [c])]) else (match acc.lookup b with | some l => supL r (acc ++ [(c, c :: l)]) | none => supL r acc)
  | _ :: r, acc => supL r acc
/-- the fields that __init__ stores -/
def fldsB : List Stmt → List Str
  | [] => []
  | .Assign [.Attribute (.Name _ _) f _] _ _ :: r => f :: fldsB r
  | _ :: r => fldsB r
def attM (l : List Stmt) : List Str := l.flatMap fun s => match s with
  | .FunctionDef n _ b _ _ _ _ _ _ _ => if decide (n = ("__init__" : Str)) then fldsB b else []
  | _ => []
def clsL : List Stmt → List (Str × List Str)
  | [] => []
  | .ClassDef c [] _ b _ _ _ _ _ _ _ :: r => (c, attM b) :: clsL r
  | _ :: r => clsL r
def glbL : List Stmt → List Str
  | [] => []
  | .FunctionDef n _ _ _ _ _ _ _ _ _ :: r => n :: glbL r
  | _ :: r => glbL r
def mkGam (body : List Stmt) (frz imp : List Str) (mutb : List (Str × Str)) : Gam where
  fn := fun q => (fnL body).lookup q
  glb := fun x => decide (x ∈ glbL body)
  con := fun x => (conL body).lookup x
  exc := fun x => ((supL body []).lookup x).isSome
  sub := fun c x => match (supL body []).lookup c with | some l => decide (x ∈ l) | none => false
  cls := fun c => ((clsL body).lookup c).map fun _ => decide (c ∈ frz)
  att := fun c f => match (clsL body).lookup c with | some fs => decide (f ∈ fs) | none => false
  imp := fun q => decide (q ∈ imp)
  mutb := fun q x => decide ((q, x) ∈ mutb)
end KR
/-! KR: the operators of values keep what the interpreter's operators say. -/
namespace KR
open PySem PySem.Spec PyProof.Rows L2

/-- a value comes of the interpreter's operator: what is wanted of it -/
def Gv (K : PySem.W.Frag) (F : Hp) (ρ : List Addr) (h : Hs) (H : Hp) (d : D) (Q : VK) : Prop := ∀ F' ρ' H' v, Ext F ρ H F' ρ' H' → Wd K F' ρ' h H' → Rep K F' d v → Q v H'
def rD (K : PySem.W.Frag) (g : D → D → Option D) : R2 := fun x y H Q => ∃ F ρ h a b d, Wd K F ρ h H ∧ Rep K F a x ∧ Rep K F b y ∧ g a b = some d ∧ Gv K F ρ h H d Q
section
variable {K : PySem.W.Frag} {F H : Hp} {ρ : List Addr} {h : Hs} {d : D} {Q : VK}
theorem Gv.here {v : V} (q : Gv K F ρ h H d Q) (w : Wd K F ρ h H) (r : Rep K F d v) : Q v H := q F ρ H v (.refl F ρ H) w r
theorem Gv.new {p : Addr} {v : V} (q : Gv K F ρ h H d Q) (w : Wd K F ρ h H) (n : H p = none) (o : HO) (r : Rep K (upd F p o) d v) : Q v (upd H p o) := q _ ρ _ v (.new n w.sub o) (w.new n o) r
end
theorem lenOk_le {n : Nat} (e : lenOk n = true) : n ≤ 1000000 := by simpa [lenOk] using e
theorem lenOk_sz {n : Nat} (e : lenOk n = true) : n ≤ sizeLine := by
  have := lenOk_le e
  rw [sizeLine_eq]; omega
theorem St_len (s : Tx) : (St s).length = s.length := by simp [St, Str.length]
theorem St_list (s : Tx) : (St s).cps.toList = s := by simp [St]
theorem St_add (a b : Tx) : St a ++ St b = St (a ++ b) := by
  show Str.append _ _ = _
  simp [Str.append, St]
theorem St_of {z : Str} {s : Tx} (e : z.cps.toList = s) : z = St s := by
  obtain ⟨c⟩ := z
  simp only at e
  subst e
  simp [St]
theorem okT_app {a b : Tx} (x : okT a = true) (y : okT b = true) : okT (a ++ b) = true := by
  unfold okT at *
  rw [List.all_append, x, y]; rfl
theorem okT_sub {a b : Tx} (x : okT a = true) (h : ∀ c ∈ b, c ∈ a) : okT b = true := by
  unfold okT at *
  rw [List.all_eq_true] at *
  exact fun c hc => x c (h c hc)
section
variable {X : Cx}
/-- a new tuple of data, its own object known -/
theorem tup_new {pins : List (Addr × Obj)} {σ : L2.St} {H : Hp} {s : Shared} {vs : List V} {us : List Value} {n : Nat} (I : Inv X pins σ H s) (r : Vals vs us) (z : vs.length ≤ sizeLine) :
    ∃ o : Obj, o.cls = .type "tuple" ∧ o.dict = none ∧ Inv X pins σ (upd H s.heap.objs.size (.frz o (.tup vs))) { s with heap := s.heap.push { cls := .type "tuple", data := .seq us.toArray n } } := by
  refine ⟨{ cls := .type "tuple", data := .seq us.toArray n }, rfl, rfl, I.laid (t' := s.toks) (fun b u e => Heap.get?_push_of_some _ e) (Nat.le_refl _) ?_⟩
  exact ⟨Heap.get?_push_size _ rfl, z, us, r, ⟨_, Heap.get?_push_size _ rfl, rfl, _, rfl⟩⟩
/-- what is wanted of a new tuple -/
def NewT (H : Hp) (vs : List V) (Q : VK) : Prop := ∀ p o, H p = none → o.cls = .type "tuple" → o.dict = none → Q (.ref p) (upd H p (.frz o (.tup vs)))
theorem Gv.tup {K : PySem.W.Frag} {F H : Hp} {ρ : List Addr} {h : Hs} {xs : List D} {vs : List V} {Q : VK} (q : Gv K F ρ h H (.tup xs) Q) (w : Wd K F ρ h H) (r : RepL K F xs vs) : NewT H vs Q := fun p o n c dn =>
  q.new w n _ ⟨p, vs, rfl, .inl ⟨o, upd_same, c, dn⟩, RepL.mono (.new (w.sub.none n) _) r⟩
theorem Gv.lst {K : PySem.W.Frag} {F H : Hp} {ρ : List Addr} {h : Hs} {xs : List D} {vs : List V} {Q : VK} (q : Gv K F ρ h H (.lst xs) Q) (w : Wd K F ρ h H) (r : RepL K F xs vs) : ∀ p, H p = none → Q (.ref p) (upd H p (.lst vs)) := fun p n =>
  q.new w n _ ⟨p, vs, rfl, upd_same, RepL.mono (.new (w.sub.none n) _) r⟩
theorem ep_tup {pins : List (Addr × Obj)} {σ : L2.St} {H : Hp} {s : Shared} {vs : List V} {us : List Value} {n : Nat} {Q : VK} (I : Inv X pins σ H s) (r : Vals vs us) (z : vs.length ≤ sizeLine) (q : NewT H vs Q) :
    EP X pins σ Q (.ref s.heap.objs.size) { s with heap := s.heap.push { cls := .type "tuple", data := .seq us.toArray n } } := by
  obtain ⟨o, c, dn, I2⟩ := tup_new (n := n) I r z
  exact ⟨.ref s.heap.objs.size, _, I2, rfl, q _ o (I.hok.fresh (Nat.le_refl _)) c dn⟩
/-- t + u -/
theorem op_tt {pins : List (Addr × Obj)} {s : Shared} {σ : L2.St} {H : Hp} {a b : Addr} {xs ys : List V} {Q : VK} (I : Inv X pins σ H s) (ha : SqT X.K H a xs) (hb : SqT X.K H b ys) (hz : xs.length + ys.length ≤ sizeLine)
    (q0 : xs = [] → Q (.ref b) H) (q1 : xs ≠ [] → ys = [] → Q (.ref a) H) (q2 : NewT H (xs ++ ys) Q) : wpAny (model X.prog X.w) X.A (binaryOp .Add (.ref a) (.ref b)) (EP X pins σ Q) X.xe s := by
  obtain ⟨us, r1, p1, _⟩ := I.tuple ha
  obtain ⟨ws, r2, p2, _⟩ := I.tuple hb
  by_cases hx : xs = []
  · subst hx
    cases r1
    exact cat_tup0 p1 p2 ⟨.ref b, H, I, rfl, q0 rfl⟩
  · have len : us.length + ws.length ≤ sizeLine := by rw [← r1.length, ← r2.length]; exact hz
    have ne : us ≠ [] := fun z => hx (r1.nil_iff.mp z)
    refine HT.cat_tup p1 p2 ne (fun z => ⟨.ref a, H, I, rfl, q1 hx (r2.nil_iff.mp z)⟩) (fun z => ?_) len
    exact ep_tup (n := 0) I (r1.append r2) (by rw [List.length_append]; exact hz) q2

theorem RepL.nil_iff {K : PySem.W.Frag} {F : Hp} {xs : List D} {vs : List V} (r : RepL K F xs vs) : vs = [] → xs = [] := fun e => by
  subst e
  cases xs with
  | nil => rfl
  | cons x xs => obtain ⟨_, _, e, _⟩ := r; cases e
theorem opD_add : OpR X (binaryOp .Add) (rD X.K (binop .Add)) := by
  intro pins s σ H x y v u Q I rx ry ⟨F, ρ, h, a, b, d, wd, ra, rb, e, q⟩
  cases a with
  | int i =>
    cases b <;> simp only [binop] at e <;> try cases e
    cases ra; cases rb
    exact op_add pins s σ H _ _ v u Q I rx ry ⟨_, _, rfl, rfl, q.here wd rfl⟩
  | str a =>
    cases b <;> simp only [binop] at e <;> try cases e
    rename_i b
    obtain ⟨rfl, oa⟩ := ra
    obtain ⟨rfl, ob⟩ := rb
    split at e
    · cases e
      rename_i hl
      refine op_add_str pins s σ H _ _ v u Q I rx ry ⟨_, _, rfl, rfl, ?_, ?_⟩
      · rw [St_len, St_len]; exact lenOk_sz hl
      · rw [St_add]; exact q.here wd ⟨rfl, okT_app oa ob⟩
    · cases e
  | lst a =>
    cases b <;> simp only [binop] at e <;> try cases e
    rename_i b
    obtain ⟨p, vs, rfl, hp, rl⟩ := ra
    obtain ⟨p', vs', rfl, hp', rl'⟩ := rb
    split at e
    · cases e
      rename_i hl
      refine op_cat pins s σ H _ _ v u Q I rx ry ⟨_, _, _, _, rfl, rfl, wd.sub _ _ hp, wd.sub _ _ hp', ?_, q.lst wd (rl.append rl')⟩
      rw [← rl.length, ← rl'.length]; exact lenOk_sz hl
    · cases e
  | tup a =>
    cases b <;> simp only [binop] at e <;> try cases e
    rename_i b
    obtain ⟨p, vs, rfl, hp, rl⟩ := ra
    obtain ⟨p', vs', rfl, hp', rl'⟩ := rb
    split at e
    · cases e
      rename_i hl
      cases rx; cases ry
      refine op_tt I (GT.mono wd.sub hp).t (GT.mono wd.sub hp').t ?_ (fun z => ?_) (fun z1 z2 => ?_) (q.tup wd (rl.append rl'))
      · rw [← rl.length, ← rl'.length]; exact lenOk_sz hl
      · have := rl.nil_iff z
        subst this
        exact q.here wd ⟨p', vs', rfl, hp', rl'⟩
      · have := rl'.nil_iff z2
        subst this
        exact q.here wd ⟨p, vs, rfl, hp, by simpa using rl⟩
    · cases e
  | _ => cases b <;> simp [binop] at e
theorem opD_sub : OpR X (binaryOp .Sub) (rD X.K (binop .Sub)) := by
  intro pins s σ H x y v u Q I rx ry ⟨F, ρ, h, a, b, d, wd, ra, rb, e, q⟩
  cases a <;> cases b <;> simp [binop] at e
  subst e
  cases ra; cases rb
  exact op_sub pins s σ H _ _ v u Q I rx ry ⟨_, _, rfl, rfl, q.here wd rfl⟩
theorem opD_mod : OpR X (binaryOp .Mod) (rD X.K (binop .Mod)) := by
  intro pins s σ H x y v u Q I rx ry ⟨F, ρ, h, a, b, d, wd, ra, rb, e, q⟩
  cases a <;> cases b <;> simp [binop] at e
  obtain ⟨e1, rfl⟩ := e
  cases ra; cases rb
  exact op_mod pins s σ H _ _ v u Q I rx ry ⟨_, _, rfl, rfl, e1, q.here wd rfl⟩
theorem opD_div : OpR X (binaryOp .FloorDiv) (rD X.K (binop .FloorDiv)) := by
  intro pins s σ H x y v u Q I rx ry ⟨F, ρ, h, a, b, d, wd, ra, rb, e, q⟩
  cases a <;> cases b <;> simp [binop] at e
  obtain ⟨e1, rfl⟩ := e
  cases ra; cases rb
  exact op_fdivW pins s σ H _ _ v u Q I rx ry ⟨_, _, rfl, rfl, e1, q.here wd rfl⟩
theorem opD_pow : OpR X (binaryOp .Pow) (rD X.K (binop .Pow)) := by
  intro pins s σ H x y v u Q I rx ry ⟨F, ρ, h, a, b, d, wd, ra, rb, e, q⟩
  cases a <;> cases b <;> simp [binop] at e
  obtain ⟨⟨⟨e1, e2⟩, e3⟩, rfl⟩ := e
  cases ra; cases rb
  exact op_pow pins s σ H _ _ v u Q I rx ry ⟨_, _, rfl, rfl, ⟨e1, by omega, e3⟩, q.here wd rfl⟩
theorem fold_arr (l : List Nat) : ∀ (n : Nat) (acc : Array Nat), ((List.replicate n l.toArray).foldl (· ++ ·) acc).toList = acc.toList ++ (List.replicate n l).flatten
  | 0, acc => by simp
  | n + 1, acc => by
    rw [List.replicate_succ, List.foldl_cons, fold_arr l n, List.replicate_succ, List.flatten_cons]
    simp
theorem opD_mul : OpR X (binaryOp .Mult) (rD X.K (binop .Mult)) := by
  intro pins s σ H x y v u Q I rx ry ⟨F, ρ, h, a, b, d, wd, ra, rb, e, q⟩
  cases a with
  | int i =>
    cases b <;> simp only [binop] at e <;> try cases e
    cases ra; cases rb
    split at e
    · cases e
      rename_i j hm
      refine op_mulW pins s σ H (.int i) (.int j) v u Q I rx ry ⟨i, j, rfl, rfl, ?_, q.here wd rfl⟩
      have : i.natAbs.log2 + j.natAbs.log2 < 100000 := by simpa [mulOk] using hm
      show _ < 1000000
      omega
    · cases e
  | str a =>
    cases b <;> simp only [binop] at e <;> try cases e
    rename_i n
    obtain ⟨rfl, oa⟩ := ra
    cases rb
    split at e
    · cases e
      rename_i hm
      simp only [Bool.and_eq_true, decide_eq_true_eq] at hm
      obtain ⟨⟨h1, h2⟩, h3⟩ := hm
      have h2 := lenOk_le h2
      have h3 := lenOk_le h3
      obtain ⟨t, rfl⟩ := rx
      obtain ⟨t', rfl⟩ := ry
      have okr : okT (repT n.toNat a) = true := okT_sub oa fun c hc => by
        unfold repT at hc
        obtain ⟨l, hl, hc⟩ := List.mem_flatten.mp hc
        rw [(List.mem_replicate.mp hl).2] at hc
        exact hc
      refine PySem.P.mul_str ?_ (fun c1 c2 => ?_) (fun c1 c2 => ?_) ?_
      · rw [decide_eq_false (show ¬ n < -(2 ^ 63) by omega), decide_eq_false (show ¬ n ≥ 2 ^ 63 by omega)]; rfl
      · rw [St_len]
        have p1 : (0 : Int) < n := by omega
        intro c
        have q1 : (a.length : Int) * n > ((2 ^ 63 - 1) / n) * n := Int.mul_lt_mul_of_pos_right c p1
        have q2 : ((a.length * n.toNat : Nat) : Int) = (a.length : Int) * n := by
          rw [Int.natCast_mul, Int.toNat_of_nonneg h1]
        have q3 : (a.length : Int) ≤ 1000000 := by
          have q4 : (a.length : Int) * 1 ≤ (a.length : Int) * n := Int.mul_le_mul_of_nonneg_left (by omega) (by omega)
          omega
        have q5 : (2 ^ 63 - 1 : Int) / n ≥ 1000000 := by
          have : (1000000 : Int) * n ≤ 2 ^ 63 - 1 := by omega
          exact (Int.le_ediv_iff_mul_le p1).mpr this
        omega
      · rw [St_len]
        unfold Builtin.Str.tooLong
        rw [decide_eq_false_iff_not, sizeLine_eq]
        omega
      · have conv : (⟨(List.replicate n.toNat (St a).cps).foldl (· ++ ·) #[]⟩ : Str) = St (repT n.toNat a) := St_of (by
          show ((List.replicate n.toNat a.toArray).foldl (· ++ ·) #[]).toList = _
          rw [fold_arr]
          simp [repT])
        by_cases c1 : n < 1
        · rw [if_pos c1]
          have n0 : n.toNat = 0 := by omega
          refine ⟨by decide, .str (St []), H, I.tok _, ⟨_, by rfl⟩, ?_⟩
          have : repT n.toNat a = [] := by rw [n0]; rfl
          exact q.here wd (by rw [this]; exact ⟨rfl, rfl⟩)
        · rw [if_neg c1]
          by_cases c2 : (n == 1 || (St a).length == 0) = true
          · rw [if_pos c2]
            refine ⟨.str (St a), H, I, ⟨t, rfl⟩, q.here wd ⟨?_, okr⟩⟩
            rw [St_len] at c2
            simp only [Bool.or_eq_true, beq_iff_eq] at c2
            rcases c2 with c2 | c2
            · subst c2
              simp [repT]
            · have : a = [] := List.eq_nil_of_length_eq_zero c2
              subst this
              simp [repT]
          · rw [if_neg c2, conv]
            refine ⟨?_, .str _, H, I.tok _, ⟨_, rfl⟩, q.here wd ⟨rfl, okr⟩⟩
            rw [St_len, sizeLine_eq]
            have : (repT n.toNat a).length = n.toNat * a.length := by simp [repT]
            rw [this, Nat.mul_comm]
            omega
    · cases e
  | lst a =>
    cases b <;> simp only [binop] at e <;> try cases e
    obtain ⟨p, vs, rfl, hp, rl⟩ := ra
    cases rb
    split at e
    · cases e
      rename_i hm
      simp only [Bool.and_eq_true, decide_eq_true_eq] at hm
      obtain ⟨⟨h1, h2⟩, h3⟩ := hm
      have h2 := lenOk_le h2
      refine op_rep pins s σ H _ _ v u Q I rx ry ⟨_, _, _, rfl, rfl, wd.sub _ _ hp, by omega, by omega, ?_, q.lst wd (rl.flatRep _)⟩
      rw [← rl.length]; exact lenOk_sz h3
    · cases e
  | tup a =>
    cases b <;> simp only [binop] at e <;> try cases e
    rename_i n
    obtain ⟨p, vs, rfl, hp, rl⟩ := ra
    cases rb
    split at e
    · cases e
      rename_i hm
      simp only [Bool.and_eq_true, decide_eq_true_eq, Bool.not_eq_true'] at hm
      obtain ⟨h0, ⟨h1, h2⟩, h3⟩ := hm
      have h2 := lenOk_le h2
      have h3 := lenOk_le h3
      cases rx
      obtain ⟨t, rfl⟩ := ry
      obtain ⟨its, r, ⟨⟨cls, dd, data, sl⟩, ho, hc, m, hd⟩, hs⟩ := I.tuple (GT.mono wd.sub hp).t
      simp only at hc hd
      subst hc hd
      have le1 : its.length = a.length := by rw [← r.length, rl.length]
      have ne1 : its.toArray.isEmpty = false := by
        have : ¬ its.length = 0 := by
          rw [le1]
          intro z
          rw [List.eq_nil_of_length_eq_zero z] at h0
          cases h0
        simp [this]
        intro z
        rw [z] at this
        exact this rfl
      have sz1 : its.toArray.size = a.length := by rw [List.size_toArray, le1]
      have pr : ((its.toArray.size : Nat) : Int) * n = ((a.length * n.toNat : Nat) : Int) := by
        rw [sz1, Int.natCast_mul, Int.toNat_of_nonneg (by omega)]
      have fl : (List.foldl (fun x1 x2 => x1 ++ x2) #[] (List.replicate n.toNat its.toArray)) = (List.replicate n.toNat its).flatten.toArray := size_rep its n.toNat
      have fz : (List.replicate n.toNat its).flatten.length = n.toNat * a.length := by
        rw [PyProof.Rows.lm_len_rep_flat, le1]
      have fle : (List.replicate n.toNat its).flatten.length ≤ sizeLine := by
        rw [fz, sizeLine_eq, Nat.mul_comm]; omega
      have e1 : n ≠ 1 := by omega
      have z1 : (decide (n < -(2 ^ 63)) || decide (n ≥ 2 ^ 63)) = false := by
        rw [decide_eq_false (show ¬ n < -(2 ^ 63) by omega), decide_eq_false (show ¬ n ≥ 2 ^ 63 by omega)]; rfl
      have z2 : (its.toArray.isEmpty || n == 1) = false := by rw [ne1, Bool.false_or]; exact beq_eq_false_iff_ne.mpr e1
      have z3 : (decide (n ≤ 0) || its.toArray.isEmpty) = false := by rw [ne1, Bool.or_false]; exact decide_eq_false (by omega)
      have z4 : Builtin.Tuple.tupleTooMany (((its.toArray.size : Nat) : Int) * n) = false := by
        unfold Builtin.Tuple.tupleTooMany
        rw [sizeLine_eq, pr]; exact decide_eq_false (by omega)
      have z5 : ¬ ((its.toArray.size : Nat) : Int) * n > (2 ^ 63 - 1) / 8 := by rw [pr]; omega
      have mt := tuple_mulW p its.toArray m dd sl n t z1 z2 z3 z5 z4 (by rw [fl, List.size_toArray]; exact fle)
      refine PySem.wpAny_binaryOp_repeat_ref (T := "tuple") (U := "int") (by decide) ⟨_, ho, rfl⟩ (fun s' => PySem.typeIs_int s' n t) noFill_tuple_mul PySem.F.fills_int_mul PySem.F.slot_int_rmul repeat_tuple PySem.F.slot_int_index.lookup
        (call_meets PySem.F.slot_int_rmul (PySem.typeIs_int s n t) PySem.F.entry_int_rmul (PySem.F.args_int_rmul_2 _ _) (int_rmul_tuple n t p its.toArray m dd sl) ⟨ho, rfl, ⟨_, ho, rfl⟩,
          call_meets PySem.F.slot_tuple_mul ⟨_, ho, rfl⟩ PySem.F.entry_tuple_mul (PySem.F.args_tuple_mul_2 _ _) mt ⟨ho, ?_⟩⟩)
      rw [fl]
      have rr : Vals (List.replicate n.toNat vs).flatten (List.replicate n.toNat its).flatten := r.rep n.toNat
      exact ep_tup (n := 0) I rr (by rw [rr.length]; exact fle) (q.tup wd (rl.flatRep _))
    · cases e
  | _ => cases b <;> simp [binop] at e
end
end KR
/-! KR: comparisons, truth, items, slices. -/
namespace KR
open PySem PySem.Spec PyProof.Rows L2
mutual
def D.py : D → PyData
  | .non => .none
  | .bl b => .bool b
  | .int i => .int i
  | .str s => .str (St s)
  | .tup xs => .tuple (D.pyL xs)
  | .lst xs => .list (D.pyL xs)
  | .ins _ _ _ => .dict []
  | .scr _ => .dict []
def D.pyL : List D → List PyData
  | [] => []
  | x :: xs => D.py x :: D.pyL xs
end
theorem St_beq (a b : Tx) : (St a == St b) = (a == b) := by
  by_cases e : a = b
  · subst e; simp
  · rw [beq_eq_false_iff_ne.mpr e]
    refine beq_eq_false_iff_ne.mpr fun z => e ?_
    have := congrArg (fun q : Str => q.cps.toList) z
    simpa [St] using this
mutual
theorem py_dep : ∀ {d : D}, d.dep ≤ 64 → d.py.depth = d.dep ∧ d.dep ≤ 64
  | .non, h => ⟨rfl, h⟩
  | .bl _, h => ⟨rfl, h⟩
  | .int _, h => ⟨rfl, h⟩
  | .str _, h => ⟨rfl, h⟩
  | .tup xs, h => by
    simp only [D.dep] at h ⊢
    refine ⟨?_, h⟩
    rw [← pyL_dep (xs := xs) (by omega)]
    rfl
  | .lst xs, h => by
    simp only [D.dep] at h ⊢
    refine ⟨?_, h⟩
    rw [← pyL_dep (xs := xs) (by omega)]
    rfl
  | .ins _ _ _, h => by simp [D.dep] at h
  | .scr _, h => by simp [D.dep] at h
theorem pyL_dep : ∀ {xs : List D}, D.depL xs ≤ 64 → PyData.depthAll (D.pyL xs) = D.depL xs
  | [], _ => rfl
  | x :: xs, h => by
    simp only [D.depL] at h ⊢
    have h1 := (py_dep (d := x) (by omega)).1
    have h2 := pyL_dep (xs := xs) (by omega)
    show max (PyData.depth x.py) (PyData.depthAll (D.pyL xs)) = _
    rw [h1, h2]
end
mutual
theorem py_eq : ∀ (a b : D), a.dep ≤ 64 → b.dep ≤ 64 → PyData.eqv a.py b.py = D.eqb a b
  | .non, b, _, _ => by cases b <;> rfl
  | .bl _, b, _, _ => by cases b <;> rfl
  | .int _, b, _, _ => by cases b <;> rfl
  | .str s, b, _, _ => by
    cases b with
    | str t => exact St_beq s t
    | _ => rfl
  | .tup xs, b, h, h' => by
    cases b with
    | tup ys =>
      simp only [D.dep] at h h'
      exact pyL_eq xs ys (by omega) (by omega)
    | _ => rfl
  | .lst xs, b, h, h' => by
    cases b with
    | lst ys =>
      simp only [D.dep] at h h'
      exact pyL_eq xs ys (by omega) (by omega)
    | _ => rfl
  | .ins _ _ _, _, h, _ => by simp [D.dep] at h
  | .scr _, _, h, _ => by simp [D.dep] at h
theorem pyL_eq : ∀ (xs ys : List D), D.depL xs ≤ 64 → D.depL ys ≤ 64 → PyData.eqvAll (D.pyL xs) (D.pyL ys) = D.eqbL xs ys
  | [], ys, _, _ => by cases ys <;> rfl
  | x :: xs, ys, h, h' => by
    cases ys with
    | nil => rfl
    | cons y ys =>
      simp only [D.depL] at h h'
      show (PyData.eqv x.py y.py && PyData.eqvAll (D.pyL xs) (D.pyL ys)) = (D.eqb x y && D.eqbL xs ys)
      rw [py_eq x y (by omega) (by omega), pyL_eq xs ys (by omega) (by omega)]
end
theorem okT_py {s : Tx} (h : okT s = true) : PyData.strOk (St s) = true := by
  unfold PyData.strOk
  have : (St s).cps.all (fun c => decide (c < 0x110000)) = s.all fun c => decide (c < 0x110000) := by simp [St]
  rw [this]; exact h
section
variable {K : PySem.W.Frag} {F H : Hp}
mutual
theorem Rep.dp (x : Sub F H) : ∀ {d : D} {v : V}, d.dep ≤ 64 → Rep K F d v → Dp K H v d.py ∧ d.py.canLay0 = true
  | .non, _, _, h => by cases h; exact ⟨.non, rfl⟩
  | .bl _, _, _, h => by cases h; exact ⟨.bl _, rfl⟩
  | .int _, _, _, h => by cases h; exact ⟨.int _, rfl⟩
  | .str _, _, _, h => by obtain ⟨rfl, ok⟩ := h; exact ⟨.str _, okT_py ok⟩
  | .tup xs, _, l, ⟨a, vs, e, g, r⟩ => by
    subst e
    simp only [D.dep] at l
    obtain ⟨h1, h2⟩ := RepL.dp x (xs := xs) (by omega) r
    exact ⟨.tup (GT.mono x g).t h1, h2⟩
  | .lst xs, _, l, ⟨a, vs, e, g, r⟩ => by
    subst e
    simp only [D.dep] at l
    obtain ⟨h1, h2⟩ := RepL.dp x (xs := xs) (by omega) r
    exact ⟨.lst (.of (x _ _ g)) h1, h2⟩
  | .ins _ _ _, _, l, _ => by simp [D.dep] at l
  | .scr _, _, l, _ => by simp [D.dep] at l
theorem RepL.dp (x : Sub F H) : ∀ {xs : List D} {vs : List V}, D.depL xs ≤ 64 → RepL K F xs vs → DpAll K H vs (D.pyL xs) ∧ PyData.canLayAll0 (D.pyL xs) = true
  | [], _, _, h => by cases h; exact ⟨.nil, rfl⟩
  | y :: ys, _, l, ⟨v, r, e, a, b⟩ => by
    subst e
    simp only [D.depL] at l
    obtain ⟨h1, h2⟩ := Rep.dp x (d := y) (by omega) a
    obtain ⟨h3, h4⟩ := RepL.dp x (xs := ys) (by omega) b
    exact ⟨.cons h1 h3, by show (PyData.canLay0 y.py && PyData.canLayAll0 (D.pyL ys)) = true; rw [h2, h4]; rfl⟩
end
theorem Rep.shaped (x : Sub F H) {d : D} {v : V} (l : d.flat = true) (r : Rep K F d v) : Dp K H v d.py ∧ SeqAt.shaped d.py = true := by
  have l : d.dep ≤ 64 := by simpa [D.flat] using l
  obtain ⟨h1, h2⟩ := r.dp x l
  obtain ⟨h3, h4⟩ := py_dep l
  refine ⟨h1, ?_⟩
  unfold SeqAt.shaped
  rw [h2, h3]
  simpa using l
end
/-- a truth value comes -/
def rDb (K : PySem.W.Frag) (g : D → D → Option Bool) : R2 := rD K fun a b => (g a b).map D.bl
theorem isIn_py (x : D) (hx : x.dep ≤ 64) : ∀ (ys : List D), D.depL ys ≤ 64 → ((D.pyL ys).any fun z => PyData.eqv z x.py) = isIn x ys
  | [], _ => rfl
  | y :: ys, h => by
    simp only [D.depL] at h
    show (PyData.eqv y.py x.py || (D.pyL ys).any fun z => PyData.eqv z x.py) = (D.eqb y x || isIn x ys)
    rw [py_eq y x (by omega) hx, isIn_py x hx ys (by omega)]
section
variable {X : Cx}
theorem opD_eq (hu : X.A.units + 64 < cLine) : OpR X (compareOp .Eq) (rDb X.K (cmpop .Eq)) := by
  intro pins s σ H x y v u Q I rx ry ⟨F, ρ, h, a, b, d, wd, ra, rb, e, q⟩
  simp only [cmpop, eqD] at e
  split at e
  · rename_i hf
    have e1 : D.bl (D.eqb a b) = d := by simpa using e
    subst e1
    obtain ⟨f1, f2⟩ := Bool.and_eq_true_iff.mp hf
    obtain ⟨d1, s1⟩ := ra.shaped wd.sub f1
    obtain ⟨d2, s2⟩ := rb.shaped wd.sub f2
    refine op_eqD hu pins s σ H x y v u Q I rx ry ⟨_, _, d1, d2, s1, s2, ?_⟩
    rw [py_eq a b (by simpa [D.flat] using f1) (by simpa [D.flat] using f2)]
    exact q.here wd rfl
  · simp at e
theorem opD_ne (hu : X.A.units + 64 < cLine) : OpR X (compareOp .NotEq) (rDb X.K (cmpop .NotEq)) := by
  intro pins s σ H x y v u Q I rx ry ⟨F, ρ, h, a, b, d, wd, ra, rb, e, q⟩
  simp only [cmpop, eqD] at e
  split at e
  · rename_i hf
    have e1 : D.bl (!D.eqb a b) = d := by simpa using e
    subst e1
    obtain ⟨f1, f2⟩ := Bool.and_eq_true_iff.mp hf
    obtain ⟨d1, s1⟩ := ra.shaped wd.sub f1
    obtain ⟨d2, s2⟩ := rb.shaped wd.sub f2
    refine op_neD hu pins s σ H x y v u Q I rx ry ⟨_, _, d1, d2, s1, s2, ?_⟩
    rw [py_eq a b (by simpa [D.flat] using f1) (by simpa [D.flat] using f2)]
    exact q.here wd rfl
  · simp at e
theorem opD_lt : OpR X (compareOp .Lt) (rDb X.K (cmpop .Lt)) := by
  intro pins s σ H x y v u Q I rx ry ⟨F, ρ, h, a, b, d, wd, ra, rb, e, q⟩
  cases a <;> cases b <;> simp [cmpop] at e
  subst e
  cases ra; cases rb
  exact op_lt pins s σ H _ _ v u Q I rx ry ⟨_, _, rfl, rfl, q.here wd rfl⟩
theorem opD_le : OpR X (compareOp .LtE) (rDb X.K (cmpop .LtE)) := by
  intro pins s σ H x y v u Q I rx ry ⟨F, ρ, h, a, b, d, wd, ra, rb, e, q⟩
  cases a <;> cases b <;> simp [cmpop] at e
  subst e
  cases ra; cases rb
  exact op_le pins s σ H _ _ v u Q I rx ry ⟨_, _, rfl, rfl, q.here wd rfl⟩
theorem opD_gt : OpR X (compareOp .Gt) (rDb X.K (cmpop .Gt)) := by
  intro pins s σ H x y v u Q I rx ry ⟨F, ρ, h, a, b, d, wd, ra, rb, e, q⟩
  cases a <;> cases b <;> simp [cmpop] at e
  subst e
  cases ra; cases rb
  exact op_gt pins s σ H _ _ v u Q I rx ry ⟨_, _, rfl, rfl, q.here wd rfl⟩
theorem opD_ge : OpR X (compareOp .GtE) (rDb X.K (cmpop .GtE)) := by
  intro pins s σ H x y v u Q I rx ry ⟨F, ρ, h, a, b, d, wd, ra, rb, e, q⟩
  cases a <;> cases b <;> simp [cmpop] at e
  subst e
  cases ra; cases rb
  exact op_ge pins s σ H _ _ v u Q I rx ry ⟨_, _, rfl, rfl, q.here wd rfl⟩
/-- x in t, t a tuple of data -/
theorem in_tup (hu : X.A.units + 65 < cLine) {pins : List (Addr × Obj)} {s : Shared} {σ : L2.St} {H : Hp} {x : V} {a : Addr} {vs : List V} {v : Value} {d : PyData} {ds : List PyData} {Q : VK} (I : Inv X pins σ H s) (rx : RelV x v)
    (hd : Dp X.K H x d) (ht : SqT X.K H a vs) (ha : DpAll X.K H vs ds) (sd : SeqAt.shaped d = true) (se : SeqAt.shaped (.tuple ds) = true) (neg : Bool) (q : Q (.bl (if neg then !(ds.any fun z => PyData.eqv z d) else ds.any fun z => PyData.eqv z d)) H) :
    wpAny (model X.prog X.w) X.A (compareOp (if neg then .NotIn else .In) v (.ref a)) (EP X pins σ Q) X.xe s := by
  obtain ⟨as, r1⟩ := Dp.reads I d x v hd rx
  obtain ⟨bs, r2⟩ := Dp.reads I (.tuple ds) (.ref a) (.ref a) (.tup ht ha) rfl
  cases neg
  · exact SeqAt.in_tuple_reads r2 r1 (SeqAt.canLay_of_shaped se) (SeqAt.canLay_of_shaped sd) (room_in_shaped sd hu) ⟨.bl _, H, I, rfl, q⟩
  · exact SeqAt.notIn_tuple_reads r2 r1 (SeqAt.canLay_of_shaped se) (SeqAt.canLay_of_shaped sd) (room_in_shaped sd hu) ⟨.bl _, H, I, rfl, q⟩
theorem opD_in (hu : X.A.units + 65 < cLine) : OpR X (compareOp .In) (rDb X.K (cmpop .In)) := by
  intro pins s σ H x y v u Q I rx ry ⟨F, ρ, h, a, b, d, wd, ra, rb, e, q⟩
  simp only [cmpop, inD] at e
  cases b with
  | lst ys =>
    simp only at e
    split at e
    · rename_i hf
      have e1 : D.bl (isIn a ys) = d := by simpa using e
      subst e1
      obtain ⟨f1, f2⟩ := Bool.and_eq_true_iff.mp hf
      obtain ⟨d1, s1⟩ := ra.shaped wd.sub f1
      obtain ⟨d2, s2⟩ := rb.shaped wd.sub f2
      refine op_inD hu pins s σ H x y v u Q I rx ry ⟨_, _, d1, d2, s1, s2, ?_⟩
      have l2 : D.depL ys + 1 ≤ 64 := by simpa [D.flat, D.dep] using f2
      rw [isIn_py a (by simpa [D.flat] using f1) ys (by omega)]
      exact q.here wd rfl
    · simp at e
  | tup ys =>
    simp only at e
    split at e
    · rename_i hf
      have e1 : D.bl (isIn a ys) = d := by simpa using e
      subst e1
      obtain ⟨f1, f2⟩ := Bool.and_eq_true_iff.mp hf
      obtain ⟨d1, s1⟩ := ra.shaped wd.sub f1
      obtain ⟨d2, s2⟩ := rb.shaped wd.sub f2
      obtain ⟨p, vs, rfl, g, r⟩ := rb
      have l2 : D.depL ys + 1 ≤ 64 := by simpa [D.flat, D.dep] using f2
      cases ry
      refine in_tup hu I rx d1 (GT.mono wd.sub g).t (RepL.dp wd.sub (by omega) r).1 s1 s2 false ?_
      rw [isIn_py a (by simpa [D.flat] using f1) ys (by omega)]
      exact q.here wd rfl
    · simp at e
  | str t =>
    simp only at e
    split at e
    · simp only [Option.map_some, Option.some.injEq] at e
      subst e
      obtain ⟨rfl, _⟩ := ra
      obtain ⟨rfl, _⟩ := rb
      refine op_in_sign pins s σ H _ _ v u Q I rx ry ⟨_, _, rfl, rfl, ?_⟩
      rw [St_list]
      exact q.here wd rfl
    · simp at e
  | _ => simp at e
theorem opD_notIn (hu : X.A.units + 65 < cLine) : OpR X (compareOp .NotIn) (rDb X.K (cmpop .NotIn)) := by
  intro pins s σ H x y v u Q I rx ry ⟨F, ρ, h, a, b, d, wd, ra, rb, e, q⟩
  simp only [cmpop, inD] at e
  cases b with
  | lst ys =>
    simp only at e
    split at e
    · rename_i hf
      have e1 : D.bl (!isIn a ys) = d := by simpa using e
      subst e1
      obtain ⟨f1, f2⟩ := Bool.and_eq_true_iff.mp hf
      obtain ⟨d1, s1⟩ := ra.shaped wd.sub f1
      obtain ⟨d2, s2⟩ := rb.shaped wd.sub f2
      refine op_notInD hu pins s σ H x y v u Q I rx ry ⟨_, _, d1, d2, s1, s2, ?_⟩
      have l2 : D.depL ys + 1 ≤ 64 := by simpa [D.flat, D.dep] using f2
      rw [isIn_py a (by simpa [D.flat] using f1) ys (by omega)]
      exact q.here wd rfl
    · simp at e
  | tup ys =>
    simp only at e
    split at e
    · rename_i hf
      have e1 : D.bl (!isIn a ys) = d := by simpa using e
      subst e1
      obtain ⟨f1, f2⟩ := Bool.and_eq_true_iff.mp hf
      obtain ⟨d1, s1⟩ := ra.shaped wd.sub f1
      obtain ⟨d2, s2⟩ := rb.shaped wd.sub f2
      obtain ⟨p, vs, rfl, g, r⟩ := rb
      have l2 : D.depL ys + 1 ≤ 64 := by simpa [D.flat, D.dep] using f2
      cases ry
      refine in_tup hu I rx d1 (GT.mono wd.sub g).t (RepL.dp wd.sub (by omega) r).1 s1 s2 true ?_
      rw [isIn_py a (by simpa [D.flat] using f1) ys (by omega)]
      exact q.here wd rfl
    · simp at e
  | str t =>
    simp only at e
    split at e
    · simp only [Option.map_some, Option.some.injEq] at e
      subst e
      obtain ⟨rfl, _⟩ := ra
      obtain ⟨rfl, _⟩ := rb
      refine op_notIn_sign pins s σ H _ _ v u Q I rx ry ⟨_, _, rfl, rfl, ?_⟩
      rw [St_list]
      exact q.here wd rfl
    · simp at e
  | _ => simp at e
/-! ### truth -/
theorem Rep.tru {F H : Hp} (x : Sub F H) {d : D} {v : V} {b : Bool} (r : Rep X.K F d v) (e : d.tru = some b) : TruV X.K v H b := by
  cases d with
  | non => cases r; exact (show b = false by simpa [D.tru] using e.symm)
  | bl c => cases r; exact (show b = c by simpa [D.tru] using e.symm)
  | int i =>
    cases r
    have e1 : (i != 0) = b := by simpa [D.tru] using e
    exact e1.symm
  | str s =>
    obtain ⟨rfl, _⟩ := r
    simp only [D.tru] at e
    split at e
    · rename_i hl
      have e1 : (!s.isEmpty) = b := by simpa using e
      refine ⟨by rw [St_len]; exact lenOk_sz hl, ?_⟩
      rw [← e1, St_len]
      cases s with
      | nil => rfl
      | cons c s =>
        have : ((c :: s).length : Int) ≠ 0 := by simp; omega
        simpa using this
    · cases e
  | tup xs =>
    obtain ⟨a, vs, rfl, g, r⟩ := r
    refine .inr (.inl ⟨vs, (GT.mono x g).t, ?_⟩)
    rw [r.isEmpty]; simpa [D.tru] using e.symm
  | lst xs =>
    obtain ⟨a, vs, rfl, g, r⟩ := r
    refine .inl ⟨vs, .of (x _ _ g), ?_⟩
    rw [r.isEmpty]; simpa [D.tru] using e.symm
  | ins c ns xs => simp [D.tru] at e
  | scr ns => simp [D.tru] at e
/-! ### items -/
theorem RepL.atI {K : PySem.W.Frag} {F : Hp} {xs : List D} {vs : List V} {i : Int} {d : D} (r : RepL K F xs vs) (e : L2.atI xs i = some d) : ∃ v, L2.atI vs i = some v ∧ Rep K F d v := by
  unfold L2.atI at *
  rw [← r.length]
  cases q : ixN xs.length i with
  | none => rw [q] at e; cases e
  | some j =>
    rw [q] at e
    exact r.get (i := j) (d := d) (by simpa using e)
theorem ixD : IxR X (rD X.K getI) := by
  intro value slice pins s σ H x y v u Q I rx ry ⟨F, ρ, h, a, b, d, wd, ra, rb, e, q⟩ hs
  cases a with
  | lst xs =>
    cases b <;> simp only [getI] at e <;> try cases e
    split at e
    · obtain ⟨p, vs, rfl, g, r⟩ := ra
      cases rb
      obtain ⟨z, e1, rz⟩ := r.atI e
      exact ix_list value slice pins s σ H _ _ v u Q I rx ry ⟨p, vs, _, z, rfl, rfl, .of (wd.sub _ _ g), e1, q.here wd rz⟩ hs
    · cases e
  | tup xs =>
    cases b <;> simp only [getI] at e <;> try cases e
    split at e
    · obtain ⟨p, vs, rfl, g, r⟩ := ra
      cases rb
      obtain ⟨z, e1, rz⟩ := r.atI e
      exact ix_tup value slice pins s σ H _ _ v u Q I rx ry ⟨p, vs, _, z, rfl, rfl, (GT.mono wd.sub g).t, e1, q.here wd rz⟩ hs
    · cases e
  | str t =>
    cases b <;> simp only [getI] at e <;> try cases e
    rename_i i
    split at e
    · rename_i hl
      obtain ⟨rfl, ok⟩ := ra
      cases rb
      cases e1 : nth t i with
      | none => rw [e1] at e; cases e
      | some c =>
        rw [e1] at e
        have e2 : D.str [c] = d := by simpa using e
        subst e2
        refine ix_str value slice pins s σ H _ _ v u Q I rx ry ⟨_, i, c, rfl, rfl, by rw [St_len]; exact lenOk_sz hl, by rw [St_list]; exact e1, q.here wd ⟨rfl, ?_⟩⟩ hs
        refine okT_sub ok fun b hb => ?_
        have hb : b = c := by simpa using hb
        subst hb
        unfold nth L2.atI at e1
        cases q : ixN t.length i with
        | none => rw [q] at e1; cases e1
        | some j => rw [q] at e1; exact List.mem_of_getElem? (by simpa using e1)
    · cases e
  | scr ns =>
    cases b <;> simp only [getI] at e <;> try cases e
    rename_i i
    obtain ⟨p, rfl, g⟩ := ra
    cases rb
    cases e1 : nth ns i with
    | none => rw [e1] at e; cases e
    | some c =>
      rw [e1] at e
      have e2 : D.int c = d := by simpa using e
      subst e2
      refine ix_list value slice pins s σ H _ _ v u Q I rx ry ⟨p, _, i, .int c, rfl, rfl, wd.sub.l g, ?_, q.here wd rfl⟩ hs
      unfold nth L2.atI at e1
      unfold L2.atI
      rw [List.length_map]
      cases q : ixN ns.length i with
      | none => rw [q] at e1; cases e1
      | some j =>
        rw [q] at e1
        have e3 : ns[j]? = some c := by simpa using e1
        show (ns.map V.int)[j]? = _
        rw [List.getElem?_map, e3]; rfl
  | _ => cases b <;> simp [getI] at e
/-! ### slices -/
def rDs (K : PySem.W.Frag) : V → Option Int → Option Int → Hp → VK → Prop := fun x lo hi H Q => ∃ F ρ h a d, Wd K F ρ h H ∧ Rep K F a x ∧ sliceD a lo hi = some d ∧ Gv K F ρ h H d Q
theorem slD : SlR X (rDs X.K) := by
  intro pins s σ H x v vl vu lo hi sl Q I rx hs pl pu ⟨F, ρ, h, a, d, wd, ra, e, q⟩
  cases a with
  | lst xs =>
    simp only [sliceD] at e
    split at e
    · simp only [Option.some.injEq] at e
      subst e
      obtain ⟨p, vs, rfl, g, r⟩ := ra
      refine sl_list pins s σ H _ v vl vu lo hi sl Q I rx hs pl pu ⟨p, vs, rfl, .of (wd.sub _ _ g), ?_⟩
      refine q.lst wd ?_
      unfold cut cutV
      rw [← r.length]
      exact (r.drop _).take _
    · cases e
  | tup xs =>
    simp only [sliceD] at e
    split at e
    · simp only [Option.some.injEq] at e
      subst e
      obtain ⟨p, vs, rfl, g, r⟩ := ra
      have ht := (GT.mono wd.sub g).t
      have rc : RepL X.K F (cut xs lo hi) (cutV vs lo hi) := by
        unfold cut cutV
        rw [← r.length]
        exact (r.drop _).take _
      cases rx
      obtain ⟨us, r', pt, z⟩ := I.tuple ht
      have size : us.toArray.size = vs.length := by rw [List.size_toArray, r'.length]
      refine ⟨"tuple", _, PyProof.Rows.slot_tuple_getitem.lookup, pt.typeIs, ?_⟩
      by_cases hw : HT.sIx vs.length 0 lo = 0 ∧ HT.sIx vs.length vs.length hi = vs.length
      · refine getItem_tuple_whole pt hs pl pu (by rw [size]; exact hw) ⟨.ref p, H, I, rfl, q.here wd ⟨p, vs, rfl, g, ?_⟩⟩
        have : cutV vs lo hi = vs := by unfold cutV; rw [hw.1, hw.2]; simp
        rw [this] at rc
        exact rc
      · refine HT.getItem_tuple_cut pt hs pl pu (by rw [size]; exact hw) ?_ (by rw [size]; exact z)
        rw [size]
        exact ep_tup (n := 0) I ((r'.drop (HT.sIx vs.length 0 lo)).take (HT.sIx vs.length vs.length hi - HT.sIx vs.length 0 lo)) (Nat.le_trans (cutV_length vs lo hi) z) (q.tup wd rc)
    · cases e
  | str t =>
    simp only [sliceD] at e
    split at e
    · rename_i hl
      simp only [Option.some.injEq] at e
      subst e
      obtain ⟨rfl, ok⟩ := ra
      refine sl_str pins s σ H _ v vl vu lo hi sl Q I rx hs pl pu ⟨_, rfl, by rw [St_len]; exact lenOk_sz hl, ?_⟩
      have : cutS (St t) lo hi = St (cut t lo hi) := St_of (by simp [cutS, St, cut, Str.length])
      rw [this]
      exact q.here wd ⟨rfl, okT_sub ok fun c hc => List.mem_of_mem_drop (List.mem_of_mem_take hc)⟩
    · cases e
  | _ => simp [sliceD] at e
end
end KR
/-! KR: built-in defs and methods. -/
namespace KR
open PySem PySem.Spec PyProof.Rows L2

def rDc (K : PySem.W.Frag) (g : List D → Option D) : List V → Hp → VK → Prop := fun xs H Q => ∃ F ρ h ds d, Wd K F ρ h H ∧ RepL K F ds xs ∧ g ds = some d ∧ Gv K F ρ h H d Q
def rDm (K : PySem.W.Frag) (g : D → List D → Option D) : V → List V → Hp → VK → Prop := fun x xs H Q => ∃ F ρ h a ds d, Wd K F ρ h H ∧ Rep K F a x ∧ RepL K F ds xs ∧ g a ds = some d ∧ Gv K F ρ h H d Q
section
variable {K : PySem.W.Frag} {F H : Hp}
theorem RepL.one {x : D} {vs : List V} (h : RepL K F [x] vs) : ∃ v, vs = [v] ∧ Rep K F x v := by
  obtain ⟨v, r, e, a, b⟩ := h
  cases b
  exact ⟨v, e, a⟩
theorem RepL.two {x y : D} {vs : List V} (h : RepL K F [x, y] vs) : ∃ v w, vs = [v, w] ∧ Rep K F x v ∧ Rep K F y w := by
  obtain ⟨v, r, e, a, b⟩ := h
  obtain ⟨w, rfl, c⟩ := b.one
  exact ⟨v, w, e, a, c⟩
theorem okT_num (n : Nat) : okT (TL.numL n) = true := by
  unfold okT
  rw [List.all_eq_true]
  intro c hc
  have : ¬ (c < 48 ∨ 57 < c) := fun z => TL.numL_free z hc
  simp only [decide_eq_true_eq]
  omega
theorem strT_of (i : Int) : (Str.ofString (toString i)) = St (strT i) ∧ okT (strT i) = true := by
  unfold strT
  by_cases h : i < 0
  · rw [if_pos h]
    have e : toString i = "-" ++ toString (0 - i) := PyProof.Rows.toString_neg h
    have e2 : (0 - i) = ((i.natAbs : Nat) : Int) := by omega
    refine ⟨St_of ?_, ?_⟩
    · rw [e, e2, Str.ofString_eq_toList]
      have h2 := TL.tl_num i.natAbs
      rw [Str.ofString_eq_toList] at h2
      simp only [String.toList_append, List.map_append]
      have h3 : ((toString ((i.natAbs : Nat) : Int)).toList.map Char.toNat) = TL.numL i.natAbs := by simpa [TL.tl] using h2
      show (_ : List Nat) = _
      rw [h3]
      rfl
    · have := okT_num i.natAbs
      unfold okT at *
      rw [List.all_cons, this]; rfl
  · rw [if_neg h]
    have e2 : i = ((i.natAbs : Nat) : Int) := by omega
    refine ⟨St_of ?_, okT_num _⟩
    have h2 := TL.tl_num i.natAbs
    rw [← e2] at h2
    exact h2
end
section
variable {X : Cx}
theorem isEmpty_arr {vs : List V} {us : List Value} (r : Vals vs us) : us.toArray.isEmpty = vs.isEmpty := by
  cases r <;> simp
theorem meets_bool_tup (l : Addr) (items : Array Value) (hf : (items.size : Int) < 2 ^ 63) : Meets (Builtin.«bool.__new__» ⟨[.type "bool", .ref l], []⟩) (fun _ R s => IsTup s.heap l items ∧ ∀ k, R (.ok (.ret (.bool (!items.isEmpty)))) { s with toks := k }) :=
  Meets.of_wp fun prog w A R s ⟨hl, hs⟩ => by
    obtain ⟨hp, g, d, tk, os⟩ := s
    have f1 := F.conv_sub_bool
    repeat (any_goals (first | assumption | (with_reducible refine truthy_tuple hl hf ?_) | wp_step))
    all_goals first | exact ⟨_, rfl, hs _⟩ | exact hs _ | skip
theorem cB_len : CallR X (.builtin "len") (rDc X.K (blt "len")) := by
  intro pins s σ H xs us Q I r ⟨F, ρ, h, ds, d, wd, rl, e, q⟩
  simp only [blt, if_true] at e
  split at e <;> try (cases e; done)
  · obtain ⟨v, rfl, rfl, ok⟩ := rl.one
    split at e
    · rename_i hl
      cases e
      refine call_len_str pins s σ H _ us Q I r ⟨_, rfl, by rw [St_len]; exact lenOk_sz hl, ?_⟩
      rw [St_len]; exact q.here wd rfl
    · cases e
  · obtain ⟨v, rfl, p, vs, rfl, g, rr⟩ := rl.one
    split at e
    · cases e
      refine call_len_seq pins s σ H _ us Q I r ⟨p, vs, rfl, .inr (GT.mono wd.sub g).t, ?_⟩
      rw [← rr.length]; exact q.here wd rfl
    · cases e
  · obtain ⟨v, rfl, p, vs, rfl, g, rr⟩ := rl.one
    split at e
    · cases e
      refine call_len_seq pins s σ H _ us Q I r ⟨p, vs, rfl, .inl (.of (wd.sub _ _ g)), ?_⟩
      rw [← rr.length]; exact q.here wd rfl
    · cases e
  · obtain ⟨v, rfl, p, rfl, g⟩ := rl.one
    cases e
    refine call_len_seq pins s σ H _ us Q I r ⟨p, _, rfl, .inl (wd.sub.l g), ?_⟩
    rw [List.length_map]; exact q.here wd rfl
theorem cB_abs : CallR X (.builtin "abs") (rDc X.K (blt "abs")) := by
  intro pins s σ H xs us Q I r ⟨F, ρ, h, ds, d, wd, rl, e, q⟩
  simp only [blt, show ¬ (("abs" : Str) = "len") by decide, show ¬ (("abs" : Str) = "int") by decide, show ¬ (("abs" : Str) = "str") by decide, if_true, if_false] at e
  split at e <;> try (cases e; done)
  obtain ⟨v, rfl, rfl⟩ := rl.one
  cases e
  exact call_abs pins s σ H _ us Q I r ⟨_, rfl, q.here wd rfl⟩
theorem cB_max (hc : X.calm = true) : CallR X (.builtin "max") (rDc X.K (blt "max")) := by
  intro pins s σ H xs us Q I r ⟨F, ρ, h, ds, d, wd, rl, e, q⟩
  simp only [blt, show ¬ (("max" : Str) = "len") by decide, show ¬ (("max" : Str) = "int") by decide, show ¬ (("max" : Str) = "str") by decide, show ¬ (("max" : Str) = "abs") by decide, if_true, if_false] at e
  split at e <;> try (cases e; done)
  obtain ⟨v, w, rfl, rfl, rfl⟩ := rl.two
  cases e
  exact call_max2 hc pins s σ H _ us Q I r ⟨_, _, rfl, q.here wd rfl⟩
theorem cB_min (hc : X.calm = true) : CallR X (.builtin "min") (rDc X.K (blt "min")) := by
  intro pins s σ H xs us Q I r ⟨F, ρ, h, ds, d, wd, rl, e, q⟩
  simp only [blt, show ¬ (("min" : Str) = "len") by decide, show ¬ (("min" : Str) = "int") by decide, show ¬ (("min" : Str) = "str") by decide, show ¬ (("min" : Str) = "abs") by decide, show ¬ (("min" : Str) = "max") by decide, if_true, if_false] at e
  split at e <;> try (cases e; done)
  obtain ⟨v, w, rfl, rfl, rfl⟩ := rl.two
  cases e
  exact call_min2 hc pins s σ H _ us Q I r ⟨_, _, rfl, q.here wd rfl⟩
theorem cT_int : CallR X (.type "int") (rDc X.K (blt "int")) := by
  intro pins s σ H xs us Q I r ⟨F, ρ, h, ds, d, wd, rl, e, q⟩
  simp only [blt, show ¬ (("int" : Str) = "len") by decide, if_true, if_false] at e
  split at e <;> try (cases e; done)
  · obtain ⟨v, rfl, rfl⟩ := rl.one
    cases e
    exact call_int1 pins s σ H _ us Q I r (.inl ⟨_, rfl, q.here wd rfl⟩)
  · obtain ⟨v, rfl, rfl⟩ := rl.one
    cases e
    exact call_int1 pins s σ H _ us Q I r (.inr ⟨_, rfl, q.here wd rfl⟩)
  · rename_i t
    obtain ⟨v, rfl, rfl, ok⟩ := rl.one
    split at e
    · rename_i hl
      cases e1 : intT t with
      | none => rw [e1] at e; cases e
      | some n =>
        rw [e1] at e
        cases e
        exact call_int_str pins s σ H _ us Q I r ⟨_, n, rfl, e1, by rw [St_len]; exact of_decide_eq_true hl, q.here wd rfl⟩
    · cases e
theorem cT_str : CallR X (.type "str") (rDc X.K (blt "str")) := by
  intro pins s σ H xs us Q I r ⟨F, ρ, h, ds, d, wd, rl, e, q⟩
  simp only [blt, show ¬ (("str" : Str) = "len") by decide, show ¬ (("str" : Str) = "int") by decide, if_true, if_false] at e
  split at e <;> try (cases e; done)
  rename_i i
  obtain ⟨v, rfl, rfl⟩ := rl.one
  split at e
  · rename_i hl
    cases e
    obtain ⟨e1, ok⟩ := strT_of i
    refine call_str_int pins s σ H _ us Q I r ⟨_, rfl, of_decide_eq_true hl, ?_⟩
    exact q.here wd ⟨congrArg V.str e1, ok⟩
  · cases e
theorem cT_bool : CallR X (.type "bool") (rDc X.K (blt "bool")) := by
  intro pins s σ H xs us Q I r ⟨F, ρ, h, ds, d, wd, rl, e, q⟩
  simp only [blt, show ¬ (("bool" : Str) = "len") by decide, show ¬ (("bool" : Str) = "int") by decide, show ¬ (("bool" : Str) = "str") by decide, show ¬ (("bool" : Str) = "abs") by decide, show ¬ (("bool" : Str) = "max") by decide, show ¬ (("bool" : Str) = "min") by decide, if_true, if_false] at e
  split at e <;> try (cases e; done)
  · obtain ⟨v, rfl, rfl⟩ := rl.one
    cases e
    exact call_bool1 pins s σ H _ us Q I r (.inr ⟨_, rfl, q.here wd rfl⟩)
  · obtain ⟨v, rfl, rfl⟩ := rl.one
    cases e
    exact call_bool1 pins s σ H _ us Q I r (.inl ⟨_, rfl, q.here wd rfl⟩)
  · obtain ⟨v, rfl, p, vs, rfl, g, rr⟩ := rl.one
    cases e
    obtain rfl := Vals.ref1 r
    obtain ⟨its, rv, pt, hz⟩ := I.tuple (GT.mono wd.sub g).t
    refine call_bool_1 (meets_bool_tup p its.toArray ?_) ⟨pt, fun k => ⟨rfl, .bl _, H, I.tok _, ?_, q.here wd rfl⟩⟩
    · have := line63
      have := rv.length
      rw [List.size_toArray]; omega
    · show Value.bool _ = _
      rw [isEmpty_arr rv, rr.isEmpty]
theorem cT_tuple : CallR X (.type "tuple") (rDc X.K (blt "tuple")) := by
  intro pins s σ H xs us Q I r ⟨F, ρ, h, ds, d, wd, rl, e, q⟩
  simp only [blt, show ¬ (("tuple" : Str) = "len") by decide, show ¬ (("tuple" : Str) = "int") by decide, show ¬ (("tuple" : Str) = "str") by decide, show ¬ (("tuple" : Str) = "abs") by decide, show ¬ (("tuple" : Str) = "max") by decide, show ¬ (("tuple" : Str) = "min") by decide, show ¬ (("tuple" : Str) = "bool") by decide, if_true, if_false] at e
  split at e <;> try (cases e; done)
  · obtain ⟨v, rfl, p, vs, rfl, g, rr⟩ := rl.one
    cases e
    obtain rfl := Vals.ref1 r
    obtain ⟨its, rv, pl, hz⟩ := I.list (.of (wd.sub _ _ g))
    refine call_tuple_list pl.isList (fun h' kp => ?_) (by have := rv.length; simp only [List.size_toArray]; omega)
    exact ep_tup (n := 0) (I.kept (t' := s.toks) kp) rv hz (q.tup wd rr)
  · obtain ⟨v, rfl, p, vs, rfl, g, rr⟩ := rl.one
    cases e
    exact call_tupleT pins s σ H _ us Q I r ⟨p, vs, rfl, (GT.mono wd.sub g).t, q.here wd ⟨p, vs, rfl, g, rr⟩⟩
theorem cT_list : CallR X (.type "list") (rDc X.K (blt "list")) := by
  intro pins s σ H xs us Q I r ⟨F, ρ, h, ds, d, wd, rl, e, q⟩
  simp only [blt, show ¬ (("list" : Str) = "len") by decide, show ¬ (("list" : Str) = "int") by decide, show ¬ (("list" : Str) = "str") by decide, show ¬ (("list" : Str) = "abs") by decide, show ¬ (("list" : Str) = "max") by decide, show ¬ (("list" : Str) = "min") by decide, show ¬ (("list" : Str) = "bool") by decide, show ¬ (("list" : Str) = "tuple") by decide, if_true, if_false] at e
  split at e <;> try (cases e; done)
  · obtain ⟨v, rfl, p, vs, rfl, g, rr⟩ := rl.one
    cases e
    exact call_list_of pins s σ H _ us Q I r ⟨p, vs, rfl, .inl (.of (wd.sub _ _ g)), q.lst wd rr⟩
  · obtain ⟨v, rfl, p, vs, rfl, g, rr⟩ := rl.one
    cases e
    exact call_list_of pins s σ H _ us Q I r ⟨p, vs, rfl, .inr (GT.mono wd.sub g).t, q.lst wd rr⟩
end
end KR
/-! KR: methods of texts, lists, tuples. -/
namespace KR
open PySem PySem.Spec PyProof.Rows L2

theorem tl_St (s : Tx) : TL.tl (St s) = s := St_list s
theorem spl_mem (S : List Nat) : ∀ (l : List Nat) (k : Nat) (acc : List Nat) (p : List Nat), p ∈ TL.spl S k acc l → ∀ c ∈ p, c ∈ acc ∨ c ∈ l
  | [], k, acc, p, hp, c, hc => by
    rw [TL.spl_nil] at hp
    have : p = acc := by simpa using hp
    subst this
    exact .inl hc
  | d :: r, 0, acc, p, hp, c, hc => by
    rw [TL.spl] at hp
    split at hp
    · rcases List.mem_cons.mp hp with e | hp
      · subst e; exact .inl hc
      · rcases spl_mem S r _ [] p hp c hc with h | h
        · cases h
        · exact .inr (List.mem_cons_of_mem _ h)
    · rcases spl_mem S r 0 (acc ++ [d]) p hp c hc with h | h
      · rcases List.mem_append.mp h with h | h
        · exact .inl h
        · have : c = d := by simpa using h
          subst this
          exact .inr List.mem_cons_self
      · exact .inr (List.mem_cons_of_mem _ h)
  | d :: r, k + 1, acc, p, hp, c, hc => by
    rw [TL.spl] at hp
    rcases spl_mem S r k acc p hp c hc with h | h
    · exact .inl h
    · exact .inr (List.mem_cons_of_mem _ h)
theorem drop_takeWhile {α : Type} (p : α → Bool) : ∀ l : List α, l.drop (l.takeWhile p).length = l.dropWhile p
  | [] => rfl
  | a :: l => by
    rw [List.takeWhile_cons, List.dropWhile_cons]
    cases p a with
    | true => simpa using drop_takeWhile p l
    | false => simp
theorem take_rev {α : Type} (p : α → Bool) (l : List α) : l.take (l.length - (l.reverse.takeWhile p).length) = (l.reverse.dropWhile p).reverse := by
  have h := drop_takeWhile p l.reverse
  have := congrArg List.reverse h
  rw [List.reverse_drop] at this
  simpa using this
theorem strip_cps (goes : Nat → Bool) (l r : Bool) (s : Tx) : Txt.stripBy goes l r (St s) = St (
    let t := if l then s.dropWhile goes else s
    if r then (t.reverse.dropWhile goes).reverse else t) := by
  refine St_of ?_
  rw [stripBy_eq]
  rw [PySem.StrLaws.strSub_toList, St_list]
  have lo : s.drop (PySem.stripLo goes l (St s)) = if l then s.dropWhile goes else s := by
    unfold PySem.stripLo
    rw [St_list]
    cases l
    · simp
    · simpa using drop_takeWhile goes s
  rw [lo]
  have ll : (if l then s.dropWhile goes else s).length = s.length - PySem.stripLo goes l (St s) := by rw [← lo, List.length_drop]
  have le : PySem.stripLo goes l (St s) ≤ s.length := by
    unfold PySem.stripLo
    rw [St_list]
    cases l
    · simp
    · simpa using (List.takeWhile_prefix goes (l := s)).length_le
  generalize ht : (if l = true then s.dropWhile goes else s) = t at *
  cases r
  · simp only [PySem.stripHi, St_len]
    simp only [Bool.false_eq_true, if_false]
    rw [← ll]
    simp
  · simp only [PySem.stripHi, St_len, St_list, if_true]
    rw [lo, ← take_rev goes t]
    congr 1
    have hr : (t.reverse.takeWhile goes).length ≤ t.length := by simpa using (List.takeWhile_prefix goes (l := t.reverse)).length_le
    omega
theorem contains_St (cs : Tx) : (St cs).cps.contains = fun c => decide (c ∈ cs) := by
  funext c
  simp [St, Array.contains_eq_mem]
theorem okT_dropW {s : Tx} (p : Nat → Bool) (h : okT s = true) : okT (s.dropWhile p) = true := okT_sub h fun c hc => (List.dropWhile_suffix p).subset hc
theorem okT_rstrip {cs s : Tx} (h : okT s = true) : okT (rstripT cs s) = true := okT_sub h fun c hc => by
  unfold rstripT at hc
  have h1 := List.mem_reverse.mp hc
  exact List.mem_reverse.mp ((List.dropWhile_suffix _).subset h1)
theorem joinL_mem (S : List Nat) : ∀ (ps : List (List Nat)) (c : Nat), c ∈ TL.joinL S ps → c ∈ S ∨ ∃ p ∈ ps, c ∈ p
  | [], c, h => by cases h
  | [p], c, h => .inr ⟨p, List.mem_cons_self, h⟩
  | p :: q :: r, c, h => by
    have h : c ∈ p ++ (S ++ TL.joinL S (q :: r)) := h
    rcases List.mem_append.mp h with h | h
    · exact .inr ⟨p, List.mem_cons_self, h⟩
    · rcases List.mem_append.mp h with h | h
      · exact .inl h
      · rcases joinL_mem S (q :: r) c h with h | ⟨z, hz, h⟩
        · exact .inl h
        · exact .inr ⟨z, List.mem_cons_of_mem _ hz, h⟩
section
variable {K : PySem.W.Frag} {F : Hp}
theorem strsOf_rep : ∀ {ds : List D} {l : List Tx} {vs : List V}, strsOf ds = some l → RepL K F ds vs → vs = (l.map St).map V.str ∧ ∀ p ∈ l, okT p = true
  | [], l, _, e, h => by
    have : l = [] := by simpa [strsOf] using e.symm
    subst this
    cases h
    exact ⟨rfl, fun _ h => by cases h⟩
  | .str s :: r, l, _, e, ⟨v, q, e1, a, b⟩ => by
    cases e2 : strsOf r with
    | none => simp [strsOf, e2] at e
    | some m =>
      have : s :: m = l := by simpa [strsOf, e2] using e
      subst this
      obtain ⟨h1, h2⟩ := strsOf_rep e2 b
      obtain ⟨a1, a2⟩ := a
      subst e1 a1 h1
      exact ⟨rfl, fun p hp => (List.mem_cons.mp hp).elim (fun z => by rw [z]; exact a2) (h2 p)⟩
  | .non :: _, _, _, e, _ => by simp [strsOf] at e
  | .bl _ :: _, _, _, e, _ => by simp [strsOf] at e
  | .int _ :: _, _, _, e, _ => by simp [strsOf] at e
  | .tup _ :: _, _, _, e, _ => by simp [strsOf] at e
  | .lst _ :: _, _, _, e, _ => by simp [strsOf] at e
  | .ins _ _ _ :: _, _, _, e, _ => by simp [strsOf] at e
  | .scr _ :: _, _, _, e, _ => by simp [strsOf] at e
theorem rep_strs : ∀ {l : List Tx}, (∀ p ∈ l, okT p = true) → RepL K F (l.map D.str) ((l.map St).map V.str)
  | [], _ => rfl
  | p :: l, h => ⟨_, _, rfl, ⟨rfl, h p List.mem_cons_self⟩, rep_strs fun q hq => h q (List.mem_cons_of_mem _ hq)⟩
end
theorem joinL_len (S : List Nat) : ∀ ps : List (List Nat), (ps.map List.length).sum + ps.length * S.length ≤ (TL.joinL S ps).length + S.length
  | [] => by simp [TL.joinL]
  | [p] => by simp [TL.joinL]
  | p :: q :: r => by
    have ih := joinL_len S (q :: r)
    show _ ≤ (p ++ (S ++ TL.joinL S (q :: r))).length + S.length
    simp only [List.map_cons, List.sum_cons, List.length_cons, List.length_append, Nat.succ_mul] at *
    omega
section
variable {X : Cx}
theorem mD_split : MtR X "str.split" (rDm X.K fun a xs => match a with | .str s => strM "split" s xs | _ => none) := by
  intro pins s σ H x xs v us Q I rx rxs ⟨F, ρ, h, a, ds, d, wd, ra, rl, e, q⟩
  cases a <;> try (cases e; done)
  rename_i t
  simp only [strM, if_true] at e
  split at e <;> try (cases e; done)
  rename_i c
  obtain ⟨w, rfl, rfl, _⟩ := rl.one
  obtain ⟨rfl, ok⟩ := ra
  split at e
  · rename_i hh
    obtain ⟨h1, h2⟩ := Bool.and_eq_true_iff.mp hh
    have h1 := lenOk_le h1
    cases e
    have key : Txt.split (St t) (St [c]) = (TL.spl [c] 0 [] t).map St := by
      have e1 := TL.split_spl (St t) (St [c]) (by rw [tl_St]; simp) (TL.kind_ok (by
        show (([c] : List Nat).toArray).all _ = true
        simpa using h2))
      rw [tl_St, tl_St] at e1
      rw [← e1, List.map_map]
      have : ∀ l : List Str, l.map (St ∘ TL.tl) = l := fun l => by
        induction l with
        | nil => rfl
        | cons z l ih => rw [List.map_cons, ih]; exact congrArg (· :: l) (St_of (z := z) rfl).symm
      exact (this _).symm
    refine mt_split pins s σ H _ _ v us Q I rx rxs ⟨St t, St [c], rfl, rfl, rfl, by rw [St_len, sizeLine_eq]; omega, ?_⟩
    rw [key]
    refine q.lst wd (rep_strs fun p hp => okT_sub ok fun z hz => ?_)
    rcases spl_mem [c] t 0 [] p hp z hz with h | h
    · cases h
    · exact h
  · cases e
theorem mD_join : MtR X "str.join" (rDm X.K fun a xs => match a with | .str s => strM "join" s xs | _ => none) := by
  intro pins s σ H x xs v us Q I rx rxs ⟨F, ρ, h, a, ds, d, wd, ra, rl, e, q⟩
  cases a <;> try (cases e; done)
  rename_i t
  simp only [strM, show ¬ (("join" : Str) = "split") by decide, if_true, if_false] at e
  split at e <;> try (cases e; done)
  obtain ⟨w, rfl, p, vs, rfl, g, rr⟩ := rl.one
  obtain ⟨rfl, ok⟩ := ra
  split at e
  · rename_i l hl
    split at e
    · rename_i hh
      obtain ⟨h0, hh⟩ := Bool.and_eq_true_iff.mp hh
      have h0 := lenOk_le h0
      have hh := lenOk_le hh
      cases e
      obtain ⟨rfl, oks⟩ := strsOf_rep hl rr
      have e1 : Txt.join (St t) (l.map St) = St (TL.joinL t l) := St_of (by
        rw [TL.join_eq]
        show TL.tl _ = _
        rw [TL.tl_join, tl_St, List.map_map]
        have : ∀ l : List Tx, l.map (TL.tl ∘ St) = l := fun l => by
          induction l with
          | nil => rfl
          | cons z l ih => rw [List.map_cons, ih]; exact congrArg (· :: l) (tl_St z)
        rw [this])
      refine mt_join pins s σ H _ _ v us Q I rx rxs ⟨St t, p, l.map St, rfl, rfl, .inl (.of (wd.sub _ _ g)), ?_, ?_⟩
      · have h1 := joinL_len t l
        have h2 : ((l.map St).map (·.length)) = l.map List.length := by
          rw [List.map_map]
          exact List.map_congr_left fun z _ => St_len z
        rw [h2, List.length_map, St_len]
        omega
      · rw [e1]
        refine q.here wd ⟨rfl, ?_⟩
        unfold okT
        rw [List.all_eq_true]
        intro c hc
        rcases joinL_mem t l c hc with h | ⟨z, hz, h⟩
        · unfold okT at ok
          exact List.all_eq_true.mp ok c h
        · have := oks z hz
          unfold okT at this
          exact List.all_eq_true.mp this c h
    · cases e
  · cases e
theorem mD_strip : MtR X "str.strip" (rDm X.K fun a xs => match a with | .str s => strM "strip" s xs | _ => none) := by
  intro pins s σ H x xs v us Q I rx rxs ⟨F, ρ, h, a, ds, d, wd, ra, rl, e, q⟩
  cases a <;> try (cases e; done)
  rename_i t
  simp only [strM, show ¬ (("strip" : Str) = "split") by decide, show ¬ (("strip" : Str) = "join") by decide, if_true, if_false] at e
  split at e <;> try (cases e; done)
  rename_i cs
  obtain ⟨w, rfl, rfl, _⟩ := rl.one
  obtain ⟨rfl, ok⟩ := ra
  split at e
  · rename_i hh
    cases e
    refine mt_stripChars pins s σ H _ _ v us Q I rx rxs ⟨St t, St cs, rfl, rfl, by rw [St_len]; exact lenOk_sz hh, ?_⟩
    have e1 : Txt.stripChars (St t) (St cs) = St (stripT cs t) := by
      unfold Txt.stripChars
      rw [strip_cps, contains_St]
      rfl
    rw [e1]
    exact q.here wd ⟨rfl, okT_rstrip (okT_dropW _ ok)⟩
  · cases e
theorem mD_rstrip : MtR X "str.rstrip" (rDm X.K fun a xs => match a with | .str s => strM "rstrip" s xs | _ => none) := by
  intro pins s σ H x xs v us Q I rx rxs ⟨F, ρ, h, a, ds, d, wd, ra, rl, e, q⟩
  cases a <;> try (cases e; done)
  rename_i t
  simp only [strM, show ¬ (("rstrip" : Str) = "split") by decide, show ¬ (("rstrip" : Str) = "join") by decide, show ¬ (("rstrip" : Str) = "strip") by decide, if_true, if_false] at e
  split at e <;> try (cases e; done)
  rename_i cs
  obtain ⟨w, rfl, rfl, _⟩ := rl.one
  obtain ⟨rfl, ok⟩ := ra
  split at e
  · rename_i hh
    cases e
    refine mt_rstripChars pins s σ H _ _ v us Q I rx rxs ⟨St t, St cs, rfl, rfl, by rw [St_len]; exact lenOk_sz hh, ?_⟩
    have e1 : Txt.rstripChars (St t) (St cs) = St (rstripT cs t) := by
      unfold Txt.rstripChars
      rw [strip_cps, contains_St]
      rfl
    rw [e1]
    exact q.here wd ⟨rfl, okT_rstrip ok⟩
  · cases e
theorem mD_rjust : MtR X "str.rjust" (rDm X.K fun a xs => match a with | .str s => strM "rjust" s xs | _ => none) := by
  intro pins s σ H x xs v us Q I rx rxs ⟨F, ρ, h, a, ds, d, wd, ra, rl, e, q⟩
  cases a <;> try (cases e; done)
  rename_i t
  simp only [strM, show ¬ (("rjust" : Str) = "split") by decide, show ¬ (("rjust" : Str) = "join") by decide, show ¬ (("rjust" : Str) = "strip") by decide, show ¬ (("rjust" : Str) = "rstrip") by decide, if_true, if_false] at e
  split at e <;> try (cases e; done)
  rename_i n c
  obtain ⟨w, w2, rfl, rfl, rfl, okc⟩ := rl.two
  obtain ⟨rfl, ok⟩ := ra
  split at e
  · rename_i hh
    simp only [Bool.and_eq_true, decide_eq_true_eq] at hh
    obtain ⟨⟨h1, h2⟩, h3⟩ := hh
    have h1 := lenOk_le h1
    have h3 := lenOk_le h3
    cases e
    obtain ⟨t1, rfl⟩ := rx
    obtain ⟨u1, r1, e1⟩ : ∃ u1 r1, us = u1 :: r1 := by cases rxs; exact ⟨_, _, rfl⟩
    subst e1
    cases rxs with
    | cons ra rb =>
      cases rb with
      | cons rb rc =>
        cases rc
        obtain ⟨t2, rfl⟩ := ra
        obtain ⟨t3, rfl⟩ := rb
        refine PyProof.Rows.rjust_fill ?_ rfl fun t' k => ⟨.str (St (rjustT t n c)), H, I.tok k, ⟨t', ?_⟩, q.here wd ⟨rfl, ?_⟩⟩
        · show (!(decide (n < -(2 ^ 63 : Int)) || decide (n ≥ 2 ^ 63)) && !decide (n.toNat > sizeLine)) = true
          rw [decide_eq_false (show ¬ n < -(2 ^ 63 : Int) by omega), decide_eq_false (show ¬ n ≥ 2 ^ 63 by omega), decide_eq_false (show ¬ n.toNat > sizeLine by rw [sizeLine_eq]; omega)]
          rfl
        · refine congrArg (Value.str · t') (St_of ?_)
          rw [rjustF_list, St_list, St_len]
          rfl
        · unfold rjustT
          refine okT_app ?_ ok
          unfold okT
          rw [List.all_eq_true]
          intro z hz
          have : z = c := (List.mem_replicate.mp hz).2
          subst this
          unfold okT at okc
          simpa using okc
  · cases e
end
end KR
/-! KR: what the interpreter says of an expression holds of the model's run of it. -/
namespace KR
open PySem PySem.Spec PyProof.Rows L2

/-! ### readings by the run itself -/
def tSem (X : Cx) (e : Expr) : TE := fun σ H Q => ∀ pins s, Inv X pins σ H s → wpAny (model X.prog X.w) X.A (eval e X.env) (EP X pins σ Q) X.xe s
theorem pe_sem {X : Cx} {e : Expr} : PE X e (tSem X e) := ⟨fun pins s _ _ _ I h => h pins s I⟩
theorem sem_of {X : Cx} {e : Expr} {t : TE} {σ : L2.St} {H : Hp} {Q : VK} (h : PE X e t) (q : t σ H Q) : tSem X e σ H Q := fun pins s I => h.run pins s σ H Q I q
def tSemT (X : Cx) (e : Expr) : TT := fun σ H Q => ∀ pins s, Inv X pins σ H s → wpAny (model X.prog X.w) X.A (isTrue e X.env (eval e X.env)) (TP X pins σ Q) X.xe s
theorem pt_sem {X : Cx} {e : Expr} : PT X e (tSemT X e) := ⟨fun pins s _ _ _ I h => h pins s I⟩
theorem semT_of {X : Cx} {e : Expr} {t : TT} {σ : L2.St} {H : Hp} {Q : Bool → Hp → Prop} (h : PT X e t) (q : t σ H Q) : tSemT X e σ H Q := fun pins s I => h.run pins s σ H Q I q
def tSemA (X : Cx) (es : List Expr) : TA := fun σ H Q => ∀ pos pins s, Inv X pins σ H s → wpAny (model X.prog X.w) X.A (spliced (backTo pos (starEach es X.env))) (AP X pins σ Q) X.xe s
theorem pa_sem {X : Cx} {es : List Expr} : PA X es (tSemA X es) := ⟨fun pos pins s _ _ _ I h => h pos pins s I⟩
theorem semA_of {X : Cx} {es : List Expr} {t : TA} {σ : L2.St} {H : Hp} {Q : List V → Hp → Prop} (h : PA X es t) (q : t σ H Q) : tSemA X es σ H Q := fun pos pins s I => h.run pos pins s σ H Q I q
def tSemO (X : Cx) (e : Option Expr) : TO := fun σ H Q => ∀ pins s, Inv X pins σ H s → wpAny (model X.prog X.w) X.A (evalPart e X.env) (fun u s' => ∃ o H', Inv X pins σ H' s' ∧ IsPart u o ∧ Q o H') X.xe s
theorem po_sem {X : Cx} {e : Option Expr} : PO X e (tSemO X e) := ⟨fun pins s _ _ _ I h => h pins s I⟩
theorem semO_of {X : Cx} {e : Option Expr} {t : TO} {σ : L2.St} {H : Hp} {Q : Option Int → Hp → Prop} (h : PO X e t) (q : t σ H Q) : tSemO X e σ H Q := fun pins s I => h.run pins s σ H Q I q

/-! ### what is wanted behind a piece -/
def Po {α β : Type} (rel : Hp → List Addr → α → β → Prop) (Wx : WX) (K : PySem.W.Frag) (F : Hp) (ρ : List Addr) (H : Hp) (σ : L2.St) (r : R α) (Q : β → Hp → Prop) : Prop := match r with
  | .ok a h' => ∀ F' ρ' H' b, Ext F ρ H F' ρ' H' → Wd K F' ρ' h' H' → rel F' ρ' a b → Q b H'
  | .ex c h' => ∀ F' ρ' H' d, Ext F ρ H F' ρ' H' → Wd K F' ρ' h' H' → Wx (.ref (He.ga K c)) d σ H'
  | .no => False
section
variable {α β γ δ : Type} {rel : Hp → List Addr → α → β → Prop} {rel2 : Hp → List Addr → γ → δ → Prop} {Wx : WX} {K : PySem.W.Frag} {F F' H H' : Hp} {ρ ρ' : List Addr} {σ : L2.St}
theorem Po.ext {r : R α} {Q : β → Hp → Prop} (x : Ext F ρ H F' ρ' H') (h : Po rel Wx K F ρ H σ r Q) : Po rel Wx K F' ρ' H' σ r Q := by
  cases r with
  | ok a h' => exact fun F2 ρ2 H2 b y wd q => h F2 ρ2 H2 b (x.trans y) wd q
  | ex c h' => exact fun F2 ρ2 H2 d y wd => h F2 ρ2 H2 d (x.trans y) wd
  | no => exact h
theorem Po.mono {r : R α} {Q Q' : β → Hp → Prop} (h : Po rel Wx K F ρ H σ r Q) (m : ∀ b H', Q b H' → Q' b H') : Po rel Wx K F ρ H σ r Q' := by
  cases r with
  | ok a h' => exact fun F2 ρ2 H2 b y wd q => m _ _ (h F2 ρ2 H2 b y wd q)
  | ex c h' => exact h
  | no => exact h
/-- the state behind a part -/
def At (rel : Hp → List Addr → α → β → Prop) (K : PySem.W.Frag) (F : Hp) (ρ : List Addr) (H : Hp) (k : α → Hs → Hp → List Addr → Hp → Prop) : β → Hp → Prop := fun b H1 => ∃ F1 ρ1 h1 a, Ext F ρ H F1 ρ1 H1 ∧ Wd K F1 ρ1 h1 H1 ∧ rel F1 ρ1 a b ∧ k a h1 F1 ρ1 H1
theorem Po.bnd {m : M α} {f : α → M γ} {h : Hs} {Q : δ → Hp → Prop} (p : Po rel2 Wx K F ρ H σ (bnd m f h) Q) : Po rel Wx K F ρ H σ (m h) (At rel K F ρ H fun a h1 F1 ρ1 H1 => Po rel2 Wx K F1 ρ1 H1 σ (f a h1) Q) := by
  unfold KR.bnd at p
  cases e : m h with
  | ok a h' =>
    rw [e] at p
    exact fun F2 ρ2 H2 b y wd q => ⟨F2, ρ2, h', a, y, wd, q, p.ext y⟩
  | ex c h' => rw [e] at p; exact p
  | no => rw [e] at p; exact p
end
abbrev rW (K : PySem.W.Frag) : Hp → List Addr → W → V → Prop := fun F ρ w v => RepW K F ρ w v
abbrev rWs (K : PySem.W.Frag) : Hp → List Addr → List W → List V → Prop := fun F ρ w v => RepWs K F ρ w v
abbrev rEq (α : Type) : Hp → List Addr → α → α → Prop := fun _ _ a b => a = b

/-! ### what is known of the program -/
/-- a def's promise -/
def spR (K : PySem.W.Frag) (cl : Cl) (q : Str) (n : Nat) : Sp := fun vs H Q E => vs.length = n ∧ ∃ F ρ h ws, Wd K F ρ h H ∧ RepWs K F ρ ws vs ∧ match cl q ws h with
  | .ok w h' => ∀ F' ρ' H' v, Ext F ρ H F' ρ' H' → Wd K F' ρ' h' H' → RepW K F' ρ' w v → Q v H'
  | .ex c h' => ∀ F' ρ' H' d, Ext F ρ H F' ρ' H' → Wd K F' ρ' h' H' → E (.ref (He.ga K c)) d H'
  | .no => False
def bltNames : List Str := ["len", "int", "str", "abs", "max", "min", "bool", "tuple", "list", "isinstance", "range", "enumerate", "zip"]
def veL : List Value := [.type "ValueError", .type "Exception", .type "BaseException", .type "object"]
structure Glob (G : Gam) (cl : Cl) (k : Nat) (P : Program) (w : World) (K : PySem.W.Frag) (mg : Str → Option Value) (base : Heap) : Prop where
  len : ∀ q I ws h, G.fn q = some I → cl q ws h = .no ∨ ws.length = I.ps.length
  glb : ∀ x I, G.fn x = some I → G.glb x = true → mg x = some (.ref (He.ga K x)) ∧ PySem.W.keepIn K (.ref (He.ga K x)) = true ∧
    ∃ fd, FnOk P w K mg base (L2.CX P w) (2 * k + 1) (He.ga K x) fd I.ps (spR K cl x I.ps.length) ∧ Binds K fd I.ps []
  met : ∀ c m I, G.cls c ≠ none → G.fn (c ++ ("." : Str) ++ m) = some I → Meth K (He.ga K c) m (He.ma K (He.ga K c) m) ∧
    ∃ fd, FnOk P w K mg base (L2.CX P w) (2 * k + 1) (He.ma K (He.ga K c) m) fd I.ps (spR K cl (c ++ ("." : Str) ++ m) I.ps.length) ∧ Binds K fd I.ps []
  cls : ∀ c fz, G.cls c = some fz → Cls K (He.ga K c) ∧ mg c = some (.ref (He.ga K c)) ∧ Mk K (He.ga K c) (He.ma K (He.ga K c) "__init__") ∧ ∃ I, G.fn (c ++ ("." : Str) ++ ("__init__" : Str)) = some I
  att : ∀ c f, G.att c f = true → Cls K (He.ga K c) ∧ NoAttr K (He.ga K c) f
  con : ∀ x d, G.con x = some d → ∃ u v, mg x = some u ∧ RelV v u ∧ ∀ F, Rep K F d v
  blt : ∀ x ∈ bltNames, mg x = none
  exc : ∀ c, G.exc c = true → mg c = some (.ref (He.ga K c)) ∧ PySem.W.subIn K (.ref (He.ga K c)) (.type "BaseException") = some true ∧ PySem.W.typeIn K (.ref (He.ga K c)) = some (.type "type") ∧ PySem.W.keepIn K (.ref (He.ga K c)) = true ∧
    PySem.W.excIn K (He.ga K c) veL "ValueError.__new__" = true
  exm : ∀ c x, G.exc c = true → G.exc x = true → PySem.W.exmOne K (.ref (He.ga K c)) (.ref (He.ga K x)) = some (G.sub c x)

/-- where one stands -/
structure Cxt (C : Cfg) (k : Nat) (sc : Scope) (X : Cx) (Wx : WX) : Prop where
  gl : Glob C.G C.cl k X.prog X.w X.K X.mg X.base
  N : X.N = C.N
  nd : C.N.Nodup
  scp : X.env.scope = sc
  kind : sc.kind = .function
  calm : X.calm = true
  room : Room (2 * k + 2) X.A
  tk : Takes X Wx

def SE (X : Cx) (Wx : WX) (env : Env) (e : Expr) (m : M W) : Prop := ∀ F ρ h σ H Q, Wd X.K F ρ h H → EnvR X.K F ρ env σ → Po (rW X.K) Wx X.K F ρ H σ (m h) Q → tSem X e σ H Q
def ST (X : Cx) (Wx : WX) (env : Env) (e : Expr) (m : M Bool) : Prop := ∀ F ρ h σ H Q, Wd X.K F ρ h H → EnvR X.K F ρ env σ → Po (rEq Bool) Wx X.K F ρ H σ (m h) Q → tSemT X e σ H Q
def SA (X : Cx) (Wx : WX) (env : Env) (es : List Expr) (m : M (List W)) : Prop := ∀ F ρ h σ H Q, Wd X.K F ρ h H → EnvR X.K F ρ env σ → Po (rWs X.K) Wx X.K F ρ H σ (m h) Q → tSemA X es σ H Q
def SO (X : Cx) (Wx : WX) (env : Env) (e : Option Expr) (m : M (Option Int)) : Prop := ∀ F ρ h σ H Q, Wd X.K F ρ h H → EnvR X.K F ρ env σ → Po (rEq (Option Int)) Wx X.K F ρ H σ (m h) Q → tSemO X e σ H Q

section
variable {C : Cfg} {k : Nat} {sc : Scope} {X : Cx} {Wx : WX} {env : Env}
theorem ix_get : ∀ {N : List Str} {x : Str} {i : Nat}, ix x N = some i → N[i]? = some x
  | [], _, _, e => by simp [ix] at e
  | y :: N, x, i, e => by
    unfold ix at e
    split at e
    · rename_i h
      have h : y = x := of_decide_eq_true h
      have e : 0 = i := by simpa using e
      subst e h
      rfl
    · cases q : ix x N with
      | none => rw [q] at e; cases e
      | some j =>
        rw [q] at e
        have e : j + 1 = i := by simpa using e
        subst e
        simpa using ix_get q
theorem Cxt.vis (c : Cxt C k sc X Wx) {x : Str} (h : vis sc x = true) : Vis X.env.scope x := by
  rw [c.scp]
  unfold KR.vis at h
  have h := (Bool.and_eq_true_iff.mp h).2
  unfold Vis
  split at h <;> first | exact .inl (by assumption) | exact .inr (.inl (by assumption)) | exact .inr (.inr (by assumption)) | cases h
theorem Cxt.glo (c : Cxt C k sc X Wx) {x : Str} (h : glo sc x = true) : Gl X x := by
  show X.env.scope.names.lookup x = _
  rw [c.scp]
  unfold KR.glo at h
  have h := (Bool.and_eq_true_iff.mp h).2
  split at h
  · assumption
  · cases h
/-- an ok value of data -/
theorem po_ofD {K : PySem.W.Frag} {F H : Hp} {ρ : List Addr} {h : Hs} {σ : L2.St} {o : Option D} {Q : VK} (p : Po (rW K) Wx K F ρ H σ (ofD o h) Q) : ∃ d, o = some d ∧ Gv K F ρ h H d Q := by
  cases o with
  | none => exact p.elim
  | some d => exact ⟨d, rfl, p⟩
theorem se_const (c : Cxt C k sc X Wx) {cn : Const} {j : Nat} {pos : Pos} : SE X Wx env (.Constant cn j pos) (ofD (constD cn)) := by
  intro F ρ h σ H Q wd er p
  obtain ⟨d, e, q⟩ := po_ofD p
  cases cn with
  | none => cases e; exact sem_of pe_non (q.here wd rfl)
  | bool b => cases e; exact sem_of pe_bl (q.here wd rfl)
  | int i => cases e; exact sem_of pe_int (q.here wd rfl)
  | str s =>
    simp only [constD] at e
    split at e
    · rename_i ok
      cases e
      exact sem_of pe_str (q.here wd ⟨congrArg V.str (St_of (z := s) rfl), ok⟩)
    · cases e
  | _ => cases e
theorem okName1 {x : Str} (h : okName x = true) : (x == ("__debug__" : Str)) = false ∧ (x == ("__classdict__" : Str)) = false ∧ x ≠ "__name__" := by
  unfold okName at h
  simp only [Bool.and_eq_true, Bool.not_eq_true'] at h
  exact ⟨h.1.1, h.1.2, by simpa using h.2⟩
theorem se_look (c : Cxt C k sc X Wx) {x : Str} {pos : Pos} (hv : vis sc x = true) : SE X Wx env (.Name x pos) (look C.N env x) := by
  intro F ρ h σ H Q wd er p
  unfold look at p
  cases e : ix x C.N with
  | none => rw [e] at p; exact p.elim
  | some i =>
    rw [e] at p
    simp only [slot] at p
    cases hw : env[i]? with
    | none => rw [hw] at p; exact p.elim
    | some o =>
      cases o with
      | none => rw [hw] at p; exact p.elim
      | some w =>
        rw [hw] at p
        obtain ⟨v, h1, h2⟩ := er.2 i w hw
        obtain ⟨o1, o2, _⟩ := okName1 (Bool.and_eq_true_iff.mp hv).1
        exact sem_of (pe_var (i := i) (by rw [c.N]; exact ix_get e) (c.vis hv) o1 o2) ⟨v, h1, p F ρ H v (.refl F ρ H) wd h2⟩
theorem se_con (c : Cxt C k sc X Wx) {x : Str} {pos : Pos} (hg : glo sc x = true) : SE X Wx env (.Name x pos) (ofD (C.G.con x)) := by
  intro F ρ h σ H Q wd er p
  obtain ⟨d, e, q⟩ := po_ofD p
  obtain ⟨u, v, h1, h2, h3⟩ := c.gl.con x d e
  exact sem_of (pe_glob (c.glo hg) h1 h2 (okName1 (Bool.and_eq_true_iff.mp hg).1).1) (q.here wd (h3 F))
theorem opD_bin (op : Operator) : OpR X (binaryOp op) (rD X.K (binop op)) := by
  cases op with
  | Add => exact opD_add
  | Sub => exact opD_sub
  | Mult => exact opD_mul
  | FloorDiv => exact opD_div
  | Mod => exact opD_mod
  | Pow => exact opD_pow
  | _ =>
    intro pins s σ H x y v u Q I rx ry ⟨F, ρ, h, a, b, d, wd, ra, rb, e, q⟩
    cases a <;> cases b <;> simp [binop] at e
theorem opD_cmp (c : Cxt C k sc X Wx) (op : CmpOp) (h1 : op ≠ .Is) (h2 : op ≠ .IsNot) : OpR X (compareOp op) (rDb X.K (cmpop op)) := by
  have hu := c.room.units
  have hd := c.room.un
  cases op with
  | Eq => exact opD_eq hu
  | NotEq => exact opD_ne hu
  | Lt => exact opD_lt
  | LtE => exact opD_le
  | Gt => exact opD_gt
  | GtE => exact opD_ge
  | In => exact opD_in (by omega)
  | NotIn => exact opD_notIn (by omega)
  | Is => exact absurd rfl h1
  | IsNot => exact absurd rfl h2
theorem se_bin (c : Cxt C k sc X Wx) {l r : Expr} {op : Operator} {pos : Pos} {ml mr : M W} (hl : SE X Wx env l ml) (hr : SE X Wx env r mr) :
    SE X Wx env (.BinOp l op r pos) (bnd ml fun a => bnd mr fun b => (match a, b with | .d x, .d y => ofD (binop op x y) | _, _ => bad)) := by
  intro F ρ h σ H Q wd er p
  refine sem_of (pe_op (opD_bin op) pe_sem pe_sem) ?_
  refine hl F ρ h σ H _ wd er (p.bnd.mono fun x H1 ⟨F1, ρ1, h1, a, x1, wd1, ra, p1⟩ => ?_)
  refine hr F1 ρ1 h1 σ H1 _ wd1 (er.mono x1.sub x1.pre) (p1.bnd.mono fun y H2 ⟨F2, ρ2, h2, b, x2, wd2, rb, p2⟩ => ?_)
  have ra2 := RepW.mono x2.sub x2.pre ra
  cases a with
  | r i => exact p2.elim
  | d a =>
    cases b with
    | r i => exact p2.elim
    | d b =>
      obtain ⟨d, e, q⟩ := po_ofD p2
      exact ⟨F2, ρ2, h2, a, b, d, wd2, ra2, rb, e, q⟩
theorem se_neg (c : Cxt C k sc X Wx) {a : Expr} {pos : Pos} {ma : M W} (ha : SE X Wx env a ma) :
    SE X Wx env (.UnaryOp .USub a pos) (bnd ma fun w => (match w with | .d (.int i) => ret (.d (.int (-i))) | _ => bad)) := by
  intro F ρ h σ H Q wd er p
  refine sem_of (pe_un un_neg pe_sem) ?_
  refine ha F ρ h σ H _ wd er (p.bnd.mono fun x H1 ⟨F1, ρ1, h1, a, x1, wd1, ra, p1⟩ => ?_)
  cases a with
  | r i => exact p1.elim
  | d a =>
    cases a with
    | int i => cases ra; exact ⟨_, rfl, p1 F1 ρ1 H1 _ (.refl _ _ _) wd1 rfl⟩
    | _ => exact p1.elim
/-- truth of a value, the heap as it is -/
theorem truM_ok {w : W} {h h' : Hs} {b : Bool} (e : truM w h = .ok b h') {F H : Hp} {ρ : List Addr} {v : V} (wd : Wd X.K F ρ h H) (r : RepW X.K F ρ w v) : h' = h ∧ TruV X.K v H b := by
  cases w with
  | d x =>
    have e : ofO x.tru h = .ok b h' := e
    cases q : x.tru with
    | none => rw [q] at e; cases e
    | some c =>
      rw [q] at e
      cases e
      exact ⟨rfl, Rep.tru wd.sub r q⟩
  | r i =>
    obtain ⟨a, ea, rfl⟩ := r
    simp only [truM] at e
    split at e
    · rename_i ws hw
      cases e
      obtain ⟨a', o, e1, e2, vs, rfl, rr⟩ := wd.obs i _ hw
      rw [ea] at e1; cases e1
      exact ⟨rfl, .inl ⟨vs, .of e2, by rw [rr.isEmpty]⟩⟩
    · rename_i ks ws hw
      cases e
      obtain ⟨a', o, e1, e2, vs, rfl, rr, hl, _⟩ := wd.obs i _ hw
      rw [ea] at e1; cases e1
      refine ⟨rfl, .inr (.inr ⟨_, e2, ?_⟩)⟩
      have := rr.length
      cases ks with
      | nil => rfl
      | cons k ks =>
        cases ws with
        | nil => cases hl
        | cons w ws =>
          cases vs with
          | nil => cases this
          | cons v vs => rfl
    · cases e
theorem truM_ex {w : W} {h : Hs} : (∃ b, truM w h = .ok b h) ∨ truM w h = .no := by
  cases w with
  | d x =>
    show (∃ b, ofO x.tru h = .ok b h) ∨ ofO x.tru h = .no
    cases x.tru with
    | none => exact .inr rfl
    | some b => exact .inl ⟨b, rfl⟩
  | r i =>
    simp only [truM]
    split
    · exact .inl ⟨_, rfl⟩
    · exact .inl ⟨_, rfl⟩
    · exact .inr rfl
/-- behind a value, its truth -/
theorem po_tru {γ δ : Type} {rel : Hp → List Addr → γ → δ → Prop} {f : Bool → M γ} {w : W} {h : Hs} {F H : Hp} {ρ : List Addr} {v : V} {σ : L2.St} {Q : δ → Hp → Prop} (wd : Wd X.K F ρ h H) (r : RepW X.K F ρ w v) (p : Po rel Wx X.K F ρ H σ (bnd (truM w) f h) Q) :
    ∃ b, TruV X.K v H b ∧ Po rel Wx X.K F ρ H σ (f b h) Q := by
  rcases truM_ex (w := w) (h := h) with ⟨b, e⟩ | e
  · unfold KR.bnd at p
    rw [e] at p
    exact ⟨b, (truM_ok e wd r).2, p⟩
  · unfold KR.bnd at p
    rw [e] at p
    exact p.elim
theorem se_not (c : Cxt C k sc X Wx) {a : Expr} {pos : Pos} {ma : M W} (ha : SE X Wx env a ma) : SE X Wx env (.UnaryOp .Not a pos) (bnd ma fun w => bnd (truM w) fun b => ret (.d (.bl (!b)))) := by
  intro F ρ h σ H Q wd er p
  refine sem_of (pe_notT pe_sem) ?_
  refine ha F ρ h σ H _ wd er (p.bnd.mono fun x H1 ⟨F1, ρ1, h1, a, x1, wd1, ra, p1⟩ => ?_)
  obtain ⟨b, tb, p2⟩ := po_tru wd1 ra p1
  exact ⟨b, tb, p2 F1 ρ1 H1 _ (.refl _ _ _) wd1 rfl⟩
theorem se_if (c : Cxt C k sc X Wx) {t a b : Expr} {pos : Pos} {mt : M Bool} {ma mb : M W} (ht : ST X Wx env t mt) (ha : SE X Wx env a ma) (hb : SE X Wx env b mb) :
    SE X Wx env (.IfExp t a b pos) (bnd mt fun c => (match c with | true => ma | false => mb)) := by
  intro F ρ h σ H Q wd er p
  refine sem_of (pe_ifExp pt_sem pe_sem pe_sem) ?_
  refine ht F ρ h σ H _ wd er (p.bnd.mono fun x H1 ⟨F1, ρ1, h1, b0, x1, wd1, ra, p1⟩ => ?_)
  cases ra
  cases x with
  | true => exact iteT (ha F1 ρ1 h1 σ H1 _ wd1 (er.mono x1.sub x1.pre) p1)
  | false => exact iteF (hb F1 ρ1 h1 σ H1 _ wd1 (er.mono x1.sub x1.pre) p1)
/-! ### argument lists -/
theorem star_of {e : Expr} {es : List Expr} {E : PySem.Env} (h : notStar e = true) : starEach (e :: es) E = (false, eval e E) :: starEach es E := by
  cases e <;> first | rfl | cases h
theorem sa_nil : SA X Wx env [] (ret []) := by
  intro F ρ h σ H Q wd er p
  exact semA_of pa_nil (p F ρ H [] (.refl _ _ _) wd rfl)
theorem sa_cons {e : Expr} {es : List Expr} {m : M W} {ms : M (List W)} (hn : notStar e = true) (he : SE X Wx env e m) (hs : SA X Wx env es ms) : SA X Wx env (e :: es) (bnd m fun w => bnd ms fun ws => ret (w :: ws)) := by
  intro F ρ h σ H Q wd er p
  refine semA_of (pa_cons pe_sem pa_sem (star_of hn)) ?_
  refine he F ρ h σ H _ wd er (p.bnd.mono fun x H1 ⟨F1, ρ1, h1, a, x1, wd1, ra, p1⟩ => ?_)
  refine hs F1 ρ1 h1 σ H1 _ wd1 (er.mono x1.sub x1.pre) (p1.bnd.mono fun y H2 ⟨F2, ρ2, h2, b, x2, wd2, rb, p2⟩ => ?_)
  exact p2 F2 ρ2 H2 _ (.refl _ _ _) wd2 ⟨x, y, rfl, RepW.mono x2.sub x2.pre ra, rb⟩
/-- a new tuple of written items, its object known -/
theorem pe_tupG {es : List Expr} {j : Nat} {pos : Pos} {t : TA} (h : PA X es t) : PE X (.Tuple es j pos) (fun σ H Q => t σ H fun xs H1 => xs.length ≤ sizeLine ∧ NewT H1 xs Q) := by
  refine ⟨fun pins s σ H Q I hq => ?_⟩
  refine wpAny_Tuple_spliced (thn (h.run pos pins s σ H _ I hq) fun us s1 hx => ?_)
  obtain ⟨xs, H1, I1, r, z, q⟩ := hx
  exact ⟨by rw [← r.length]; exact z, ep_tup (n := 0) I1 r z q⟩
theorem datas_len : ∀ {ws : List W} {ds : List D}, datas ws = some ds → ws.length = ds.length := fun {ws ds} e => by rw [datas_map e, List.length_map]
theorem po_datas {γ δ : Type} {rel : Hp → List Addr → γ → δ → Prop} {f : List D → M γ} {ws : List W} {h : Hs} {F H : Hp} {ρ : List Addr} {vs : List V} {σ : L2.St} {Q : δ → Hp → Prop} (r : RepWs X.K F ρ ws vs)
    (p : Po rel Wx X.K F ρ H σ ((match datas ws with | some xs => f xs | none => bad) h) Q) : ∃ xs, datas ws = some xs ∧ RepL X.K F xs vs ∧ Po rel Wx X.K F ρ H σ (f xs h) Q := by
  cases e : datas ws with
  | none => rw [e] at p; exact p.elim
  | some xs => rw [e] at p; exact ⟨xs, rfl, RepWs.datas e r, p⟩
theorem se_tup (c : Cxt C k sc X Wx) {es : List Expr} {j : Nat} {pos : Pos} {ms : M (List W)} (hs : SA X Wx env es ms) :
    SE X Wx env (.Tuple es j pos) (bnd ms fun ws => (match datas ws with | some xs => (match lenOk xs.length with | true => ret (.d (.tup xs)) | false => bad) | none => bad)) := by
  intro F ρ h σ H Q wd er p
  refine sem_of (pe_tupG pa_sem) ?_
  refine hs F ρ h σ H _ wd er (p.bnd.mono fun vs H1 ⟨F1, ρ1, h1, a, x1, wd1, ra, p1⟩ => ?_)
  obtain ⟨xs, e, rl, p2⟩ := po_datas (γ := W) (f := fun xs => (match lenOk xs.length with | true => ret (W.d (.tup xs)) | false => bad)) ra p1
  cases hl : lenOk xs.length with
  | false => rw [hl] at p2; exact p2.elim
  | true =>
    rw [hl] at p2
    have q : Gv X.K F1 ρ1 h1 H1 (.tup xs) Q := p2
    exact ⟨by rw [← rl.length]; exact lenOk_sz hl, q.tup wd1 rl⟩
theorem se_lst (c : Cxt C k sc X Wx) {es : List Expr} {pos : Pos} {ms : M (List W)} (hs : SA X Wx env es ms) :
    SE X Wx env (.List es pos) (bnd ms fun ws => (match datas ws with | some xs => (match lenOk xs.length with | true => ret (.d (.lst xs)) | false => bad) | none => bad)) := by
  intro F ρ h σ H Q wd er p
  refine sem_of (pe_lst pa_sem) ?_
  refine hs F ρ h σ H _ wd er (p.bnd.mono fun vs H1 ⟨F1, ρ1, h1, a, x1, wd1, ra, p1⟩ => ?_)
  obtain ⟨xs, e, rl, p2⟩ := po_datas (γ := W) (f := fun xs => (match lenOk xs.length with | true => ret (W.d (.lst xs)) | false => bad)) ra p1
  cases hl : lenOk xs.length with
  | false => rw [hl] at p2; exact p2.elim
  | true =>
    rw [hl] at p2
    have q : Gv X.K F1 ρ1 h1 H1 (.lst xs) Q := p2
    exact ⟨by rw [← rl.length]; exact lenOk_sz hl, q.lst wd1 rl⟩
/-! ### and, or -/
theorem se_one (c : Cxt C k sc X Wx) {e : Expr} {op : BoolOp} {pos : Pos} {m : M W} (h : SE X Wx env e m) : SE X Wx env (.BoolOp op [e] pos) m := fun F ρ hh σ H Q wd er p =>
  sem_of (pe_one pe_sem) (h F ρ hh σ H Q wd er p)
theorem se_bool (c : Cxt C k sc X Wx) {e b : Expr} {r : List Expr} {op : BoolOp} {pos : Pos} {m mr : M W} (he : SE X Wx env e m) (hr : SE X Wx env (.BoolOp op (b :: r) pos) mr) :
    SE X Wx env (.BoolOp op (e :: b :: r) pos) (bnd m fun w => bnd (truM w) fun t => (match (generalizing := false) op, t with | .And, true => mr | .And, false => ret w | .Or, true => ret w | .Or, false => mr)) := by
  intro F ρ h σ H Q wd er p
  cases op with
  | And =>
    refine sem_of (pe_andT pe_sem pe_sem) ?_
    refine he F ρ h σ H _ wd er (p.bnd.mono fun x H1 ⟨F1, ρ1, h1, a, x1, wd1, ra, p1⟩ => ?_)
    obtain ⟨t, tb, p2⟩ := po_tru wd1 ra p1
    refine ⟨t, tb, ?_⟩
    cases t with
    | true => exact iteT (hr F1 ρ1 h1 σ H1 _ wd1 (er.mono x1.sub x1.pre) p2)
    | false => exact iteF (p2 F1 ρ1 H1 _ (.refl _ _ _) wd1 ra)
  | Or =>
    refine sem_of (pe_orT pe_sem pe_sem) ?_
    refine he F ρ h σ H _ wd er (p.bnd.mono fun x H1 ⟨F1, ρ1, h1, a, x1, wd1, ra, p1⟩ => ?_)
    obtain ⟨t, tb, p2⟩ := po_tru wd1 ra p1
    refine ⟨t, tb, ?_⟩
    cases t with
    | true => exact iteT (p2 F1 ρ1 H1 _ (.refl _ _ _) wd1 ra)
    | false => exact iteF (hr F1 ρ1 h1 σ H1 _ wd1 (er.mono x1.sub x1.pre) p2)
/-! ### tests -/
theorem st_truth (c : Cxt C k sc X Wx) {e : Expr} {m : M W} (he : ∀ whole, isTrue e X.env whole = (do let v ← whole; standAt e.pos; holding [v] (truthy v))) (h : SE X Wx env e m) : ST X Wx env e (bnd m fun w => truM w) := by
  intro F ρ hh σ H Q wd er p
  refine semT_of (pt_truth pe_sem he) ?_
  refine h F ρ hh σ H _ wd er (p.bnd.mono fun x H1 ⟨F1, ρ1, h1, a, x1, wd1, ra, p1⟩ => ?_)
  have p1 : Po (rEq Bool) Wx X.K F1 ρ1 H1 σ (truM a h1) Q := p1
  rcases truM_ex (w := a) (h := h1) with ⟨b, e⟩ | e
  · rw [e] at p1
    exact ⟨b, (truM_ok e wd1 ra).2, p1 F1 ρ1 H1 b (.refl _ _ _) wd1 rfl⟩
  · rw [e] at p1; exact p1.elim
theorem st_not (c : Cxt C k sc X Wx) {a : Expr} {pos : Pos} {m : M Bool} (h : ST X Wx env a m) : ST X Wx env (.UnaryOp .Not a pos) (bnd m fun b => ret (!b)) := by
  intro F ρ hh σ H Q wd er p
  refine semT_of (pt_not pt_sem) ?_
  refine h F ρ hh σ H _ wd er (p.bnd.mono fun x H1 ⟨F1, ρ1, h1, a, x1, wd1, ra, p1⟩ => ?_)
  cases ra
  exact p1 F1 ρ1 H1 _ (.refl _ _ _) wd1 rfl
/-- a chain of tests, whatever its whole is -/
def SW (X : Cx) (Wx : WX) (env : Env) (e : Expr) (m : M Bool) : Prop := ∀ whole F ρ h σ H Q, Wd X.K F ρ h H → EnvR X.K F ρ env σ → Po (rEq Bool) Wx X.K F ρ H σ (m h) Q → ∀ pins s, Inv X pins σ H s → wpAny (model X.prog X.w) X.A (isTrue e X.env whole) (TP X pins σ Q) X.xe s
theorem sw_st {e : Expr} {m : M Bool} (h : SW X Wx env e m) : ST X Wx env e m := h _
theorem sw_one {e : Expr} {op : BoolOp} {pos : Pos} {m : M Bool} (h : ST X Wx env e m) : SW X Wx env (.BoolOp op [e] pos) m := by
  intro whole F ρ hh σ H Q wd er p pins s I
  cases op with
  | And => exact (pw_and1 (pt_sem (X := X) (e := e))).run whole pins s σ H Q I (h F ρ hh σ H Q wd er p)
  | Or => exact (pw_or1 (pt_sem (X := X) (e := e))).run whole pins s σ H Q I (h F ρ hh σ H Q wd er p)
theorem sw_cons {e b : Expr} {r : List Expr} {op : BoolOp} {pos : Pos} {m mr : M Bool} (he : ST X Wx env e m) (hr : SW X Wx env (.BoolOp op (b :: r) pos) mr) :
    SW X Wx env (.BoolOp op (e :: b :: r) pos) (bnd m fun t => (match (generalizing := false) op, t with | .And, true => mr | .And, false => ret false | .Or, true => ret true | .Or, false => mr)) := by
  intro whole F ρ hh σ H Q wd er p pins s I
  have tr : ∀ {pos : Pos}, PW X (.BoolOp op (b :: r) pos) (fun σ H Q => ∀ whole pins s, Inv X pins σ H s → wpAny (model X.prog X.w) X.A (isTrue (.BoolOp op (b :: r) pos) X.env whole) (TP X pins σ Q) X.xe s) := ⟨fun wh pins s _ _ _ I h => h wh pins s I⟩
  cases op with
  | And =>
    refine (pw_and (pt_sem (X := X) (e := e)) (tr (pos := pos))).run whole pins s σ H Q I ?_
    refine he F ρ hh σ H _ wd er (p.bnd.mono fun x H1 ⟨F1, ρ1, h1, a, x1, wd1, ra, p1⟩ => ?_)
    cases ra
    cases x with
    | true => exact iteT fun wh pins s I => hr wh F1 ρ1 h1 σ H1 _ wd1 (er.mono x1.sub x1.pre) p1 pins s I
    | false => exact iteF (p1 F1 ρ1 H1 _ (.refl _ _ _) wd1 rfl)
  | Or =>
    refine (pw_or (pt_sem (X := X) (e := e)) (tr (pos := pos))).run whole pins s σ H Q I ?_
    refine he F ρ hh σ H _ wd er (p.bnd.mono fun x H1 ⟨F1, ρ1, h1, a, x1, wd1, ra, p1⟩ => ?_)
    cases ra
    cases x with
    | true => exact iteT (p1 F1 ρ1 H1 _ (.refl _ _ _) wd1 rfl)
    | false => exact iteF fun wh pins s I => hr wh F1 ρ1 h1 σ H1 _ wd1 (er.mono x1.sub x1.pre) p1 pins s I
/-! ### comparisons: as values and as tests -/
theorem isN_ok {F : Hp} {ρ : List Addr} {w : W} {v : V} (r : RepW X.K F ρ w v) : decide (v = .non) = isN w := by
  cases w with
  | d d =>
    cases d with
    | non => cases r; rfl
    | bl b => cases r; rfl
    | int i => cases r; rfl
    | str s => obtain ⟨rfl, _⟩ := r; rfl
    | tup xs => obtain ⟨a, vs, rfl, _⟩ := r; rfl
    | lst xs => obtain ⟨a, vs, rfl, _⟩ := r; rfl
    | ins _ _ _ => obtain ⟨a, dx, vs, rfl, _⟩ := r; rfl
    | scr _ => obtain ⟨a, rfl, _⟩ := r; rfl
  | r i => obtain ⟨a, _, rfl⟩ := r; rfl
theorem po_toB {m : M W} {K : PySem.W.Frag} {F H : Hp} {ρ : List Addr} {h : Hs} {σ : L2.St} {Q : Bool → Hp → Prop} (p : Po (rEq Bool) Wx K F ρ H σ (toB m h) Q) : Po (rW K) Wx K F ρ H σ (m h) (fun x H' => ∃ b, x = .bl b ∧ Q b H') := by
  refine (p.bnd (rel := rW K)).mono fun x H1 ⟨F1, ρ1, h1, a, x1, wd1, ra, p1⟩ => ?_
  cases a with
  | r i => exact p1.elim
  | d a =>
    cases a with
    | bl b => cases ra; exact ⟨b, rfl, p1 F1 ρ1 H1 b (.refl _ _ _) wd1 rfl⟩
    | _ => exact p1.elim
/-- both of a comparison: as a value, as a test -/
def SC2 (X : Cx) (Wx : WX) (env : Env) (e : Expr) (m : M W) : Prop := SE X Wx env e m ∧ ST X Wx env e (toB m)
theorem sc2_of {e : Expr} {m : M W} {t : TE} (rd : ∀ F ρ h σ H Q, Wd X.K F ρ h H → EnvR X.K F ρ env σ → Po (rW X.K) Wx X.K F ρ H σ (m h) Q → t σ H Q) (pe : PE X e t) (pt : PT X e (tTest t)) : SC2 X Wx env e m :=
  ⟨fun F ρ h σ H Q wd er p => sem_of pe (rd F ρ h σ H Q wd er p), fun F ρ h σ H Q wd er p => semT_of pt (rd F ρ h σ H _ wd er (po_toB p))⟩
theorem sc_isN (c : Cxt C k sc X Wx) {a : Expr} {j : Nat} {pos pos' : Pos} {m : M W} (h : SE X Wx env a m) : SC2 X Wx env (.Compare a [.Is] [.Constant .none j pos'] pos) (bnd m fun w => ret (.d (.bl (isN w)))) := by
  refine sc2_of (fun F ρ hh σ H Q wd er p => ?_) (pe_cmp (pc_isN pe_sem)) (pt_cmp (pc_isN pe_sem))
  refine h F ρ hh σ H _ wd er (p.bnd.mono fun x H1 ⟨F1, ρ1, h1, a, x1, wd1, ra, p1⟩ => ?_)
  rw [isN_ok ra]
  exact p1 F1 ρ1 H1 _ (.refl _ _ _) wd1 rfl
theorem sc_notN (c : Cxt C k sc X Wx) {a : Expr} {j : Nat} {pos pos' : Pos} {m : M W} (h : SE X Wx env a m) : SC2 X Wx env (.Compare a [.IsNot] [.Constant .none j pos'] pos) (bnd m fun w => ret (.d (.bl (!isN w)))) := by
  refine sc2_of (fun F ρ hh σ H Q wd er p => ?_) (pe_cmp (pc_notN pe_sem)) (pt_cmp (pc_notN pe_sem))
  refine h F ρ hh σ H _ wd er (p.bnd.mono fun x H1 ⟨F1, ρ1, h1, a, x1, wd1, ra, p1⟩ => ?_)
  rw [isN_ok ra]
  exact p1 F1 ρ1 H1 _ (.refl _ _ _) wd1 rfl
theorem sc_cmp (c : Cxt C k sc X Wx) {a b : Expr} {op : CmpOp} {pos : Pos} {ma mb : M W} (hm : behindInMarks op b = false) (h1 : op ≠ .Is) (h2 : op ≠ .IsNot) (ha : SE X Wx env a ma) (hb : SE X Wx env b mb) :
    SC2 X Wx env (.Compare a [op] [b] pos) (bnd ma fun u => bnd mb fun v => (match u, v with | .d x, .d y => ofD ((cmpop op x y).map D.bl) | _, _ => bad)) := by
  have ho := opD_cmp c op h1 h2
  refine sc2_of (fun F ρ hh σ H Q wd er p => ?_) (pe_cmpR ho pe_sem pe_sem hm) (pt_cmpR ho pe_sem pe_sem hm)
  refine ha F ρ hh σ H _ wd er (p.bnd.mono fun x H1 ⟨F1, ρ1, h1, a, x1, wd1, ra, p1⟩ => ?_)
  refine hb F1 ρ1 h1 σ H1 _ wd1 (er.mono x1.sub x1.pre) (p1.bnd.mono fun y H2 ⟨F2, ρ2, h2, b, x2, wd2, rb, p2⟩ => ?_)
  have ra2 := RepW.mono x2.sub x2.pre ra
  cases a with
  | r i => exact p2.elim
  | d a =>
    cases b with
    | r i => exact p2.elim
    | d b =>
      obtain ⟨d, e, q⟩ := po_ofD p2
      exact ⟨F2, ρ2, h2, a, b, d, wd2, ra2, rb, e, q⟩
theorem sc_chain (c : Cxt C k sc X Wx) {a b d : Expr} {op op' : CmpOp} {pos : Pos} {ma mb md : M W} (hm : lastMarks [op, op'] [b, d] = false) (h1 : op ≠ .Is) (h2 : op ≠ .IsNot) (h3 : op' ≠ .Is) (h4 : op' ≠ .IsNot) (ha : SE X Wx env a ma) (hb : SE X Wx env b mb) (hd : SE X Wx env d md) :
    SC2 X Wx env (.Compare a [op, op'] [b, d] pos) (bnd ma fun u => bnd mb fun v => (match u, v with
        | .d x, .d y => (match cmpop op x y with
          | some true => bnd md fun w => (match w with | .d z => ofD ((cmpop op' y z).map D.bl) | _ => bad)
          | some false => ret (.d (.bl false))
          | none => bad)
        | _, _ => bad)) := by
  have ho := opD_cmp c op h1 h2
  have ho' := opD_cmp c op' h3 h4
  refine sc2_of (fun F ρ hh σ H Q wd er p => ?_) (pe_chain ho ho' pe_sem pe_sem pe_sem hm) (pt_chain ho ho' pe_sem pe_sem pe_sem hm)
  refine ha F ρ hh σ H _ wd er (p.bnd.mono fun x H1 ⟨F1, ρ1, h1, a, x1, wd1, ra, p1⟩ => ?_)
  refine hb F1 ρ1 h1 σ H1 _ wd1 (er.mono x1.sub x1.pre) (p1.bnd.mono fun y H2 ⟨F2, ρ2, h2, b, x2, wd2, rb, p2⟩ => ?_)
  have ra2 := RepW.mono x2.sub x2.pre ra
  have er2 := (er.mono x1.sub x1.pre).mono x2.sub x2.pre
  cases a with
  | r i => exact p2.elim
  | d a =>
    cases b with
    | r i => exact p2.elim
    | d b =>
      have p2 : Po (rW X.K) Wx X.K F2 ρ2 H2 σ ((match cmpop op a b with
          | some true => bnd md fun w => (match w with | .d z => ofD ((cmpop op' b z).map D.bl) | _ => bad)
          | some false => ret (.d (.bl false))
          | none => (bad : M W)) h2) Q := p2
      cases e : cmpop op a b with
      | none => rw [e] at p2; exact p2.elim
      | some t =>
        refine ⟨F2, ρ2, h2, a, b, .bl t, wd2, ra2, rb, by show Option.map D.bl (cmpop op a b) = _; rw [e]; rfl, fun F3 ρ3 H3 v x3 wd3 rv => ?_⟩
        cases rv
        refine ⟨t, rfl, ?_⟩
        rw [e] at p2
        cases t with
        | false => exact iteF (p2.ext x3 F3 ρ3 H3 _ (.refl _ _ _) wd3 rfl)
        | true =>
          refine iteT (hd F3 ρ3 h2 σ H3 _ wd3 (er2.mono x3.sub x3.pre) ((p2.ext x3).bnd.mono fun z H4 ⟨F4, ρ4, h4, d, x4, wd4, rd, p4⟩ => ?_))
          cases d with
          | r i => exact p4.elim
          | d d =>
            obtain ⟨g, e4, q⟩ := po_ofD p4
            exact ⟨F4, ρ4, h4, b, d, g, wd4, Rep.mono x4.sub (Rep.mono x3.sub rb), rd, e4, q⟩
/-! ### fields, items, slices -/
theorem base_of {o : Expr} {f : Str} {E : PySem.Env} (h : plainBase o = true) : attributeBase o f E (eval o E) = eval o E := by
  cases o with
  | Call fn args kws pos =>
    cases fn with
    | Name id p =>
      cases args with
      | nil =>
        cases kws with
        | nil => cases h
        | cons _ _ => rfl
      | cons _ _ => rfl
    | _ => rfl
  | _ => rfl
theorem fldAt_ok {K : PySem.W.Frag} {F : Hp} {ρ : List Addr} {f : Str} : ∀ {ns : List Str} {ws : List W} {vs : List V} {w : W}, fldAt f ns ws = some w → RepWs K F ρ ws vs → ∃ v, (ns.zip vs).lookup f = some v ∧ RepW K F ρ w v
  | [], _, _, _, e, _ => by simp [fldAt] at e
  | n :: ns, [], _, _, e, _ => by simp [fldAt] at e
  | n :: ns, u :: ws, _, w, e, ⟨v, r, e1, a, b⟩ => by
    subst e1
    unfold fldAt at e
    by_cases h : n = f
    · rw [decide_eq_true h] at e
      have e : u = w := by simpa using e
      subst e h
      exact ⟨v, by simp [List.lookup], a⟩
    · rw [decide_eq_false h] at e
      obtain ⟨z, h1, h2⟩ := fldAt_ok (ns := ns) (by simpa using e) b
      refine ⟨z, ?_, h2⟩
      rw [List.zip_cons_cons, List.lookup_cons, show (f == n) = false from beq_eq_false_iff_ne.mpr fun z => h z.symm]
      exact h1
theorem fldAtD_ok {K : PySem.W.Frag} {F : Hp} {f : Str} : ∀ {ns : List Str} {ws : List D} {vs : List V} {w : D}, fldAtD f ns ws = some w → RepL K F ws vs → ∃ v, (ns.zip vs).lookup f = some v ∧ Rep K F w v
  | [], _, _, _, e, _ => by simp [fldAtD] at e
  | n :: ns, [], _, _, e, _ => by simp [fldAtD] at e
  | n :: ns, u :: ws, _, w, e, ⟨v, r, e1, a, b⟩ => by
    subst e1
    unfold fldAtD at e
    by_cases h : n = f
    · rw [decide_eq_true h] at e
      have e : u = w := by simpa using e
      subst e h
      exact ⟨v, by simp [List.lookup], a⟩
    · rw [decide_eq_false h] at e
      obtain ⟨z, h1, h2⟩ := fldAtD_ok (ns := ns) (by simpa using e) b
      refine ⟨z, ?_, h2⟩
      rw [List.zip_cons_cons, List.lookup_cons, show (f == n) = false from beq_eq_false_iff_ne.mpr fun z => h z.symm]
      exact h1
/-- what a field's reading asks -/
theorem getF_rd (c : Cxt C k sc X Wx) {w : W} {f : Str} {h : Hs} {F H : Hp} {ρ : List Addr} {x : V} {σ : L2.St} {Q : VK} (wd : Wd X.K F ρ h H) (r : RepW X.K F ρ w x) (p : Po (rW X.K) Wx X.K F ρ H σ (getF C.G w f h) Q) :
    ∃ a D dx fs v, x = .ref a ∧ H a = some (.ins D dx fs) ∧ Cls X.K D ∧ NoAttr X.K D f ∧ fs.lookup f = some v ∧ Q v H := by
  cases w with
  | d d =>
    cases d with
    | ins cn ns xs =>
      obtain ⟨a, dx, vs, rfl, e1, rl, hl⟩ := r
      have p : Po (rW X.K) Wx X.K F ρ H σ ((if C.G.att cn f then (match fldAtD f ns xs with | some x => ret (W.d x) | none => bad) else (bad : M W)) h) Q := p
      cases ea : C.G.att cn f with
      | false => rw [ea] at p; exact p.elim
      | true =>
        rw [ea] at p
        cases ef : fldAtD f ns xs with
        | none => rw [ef] at p; exact p.elim
        | some y =>
          rw [ef] at p
          obtain ⟨v, h1, h2⟩ := fldAtD_ok ef rl
          obtain ⟨g1, g2⟩ := c.gl.att cn f ea
          exact ⟨a, _, dx, _, v, rfl, wd.sub _ _ e1, g1, g2, h1, p F ρ H v (.refl _ _ _) wd h2⟩
    | _ => exact p.elim
  | r i =>
    obtain ⟨a, ea, rfl⟩ := r
    simp only [getF] at p
    cases eh : h[i]? with
    | none => rw [eh] at p; exact p.elim
    | some ob =>
      rw [eh] at p
      cases ob with
      | ins cn ns ws =>
        obtain ⟨a', o, e1, e2, dx, vs, rfl, rl, hl⟩ := wd.obs i _ eh
        rw [ea] at e1; cases e1
        simp only at p
        cases eb : C.G.att cn f with
        | false => rw [eb] at p; exact p.elim
        | true =>
          rw [eb] at p
          cases ef : fldAt f ns ws with
          | none => rw [ef] at p; exact p.elim
          | some y =>
            rw [ef] at p
            obtain ⟨v, h1, h2⟩ := fldAt_ok ef rl
            obtain ⟨g1, g2⟩ := c.gl.att cn f eb
            exact ⟨a, _, dx, _, v, rfl, e2, g1, g2, h1, p F ρ H v (.refl _ _ _) wd h2⟩
      | _ => exact p.elim
theorem se_att (c : Cxt C k sc X Wx) {o : Expr} {f : Str} {pos : Pos} {m : M W} (hb : plainBase o = true) (h : SE X Wx env o m) : SE X Wx env (.Attribute o f pos) (bnd m fun w => getF C.G w f) := by
  intro F ρ hh σ H Q wd er p
  refine sem_of (pe_fld pe_sem (base_of hb)) ?_
  exact h F ρ hh σ H _ wd er (p.bnd.mono fun x H1 ⟨F1, ρ1, h1, a, x1, wd1, ra, p1⟩ => getF_rd c wd1 ra p1)
theorem IxR.or {r r' : R2} (h : IxR X r) (h' : IxR X r') : IxR X (fun x y H Q => r x y H Q ∨ r' x y H Q) := by
  intro value slice pins s σ H x y v u Q I rx ry q hs
  rcases q with q | q
  · exact h value slice pins s σ H x y v u Q I rx ry q hs
  · exact h' value slice pins s σ H x y v u Q I rx ry q hs
theorem plainIx {b : Expr} (h : notSlice b = true) : PlainIx b := by
  intro o i
  cases b <;> first | rfl | cases h
theorem se_sub (c : Cxt C k sc X Wx) {o i : Expr} {pos : Pos} {mo mi : M W} (hs : notSlice i = true) (ho : SE X Wx env o mo) (hi : SE X Wx env i mi) : SE X Wx env (.Subscript o i pos) (bnd mo fun w => bnd mi fun j => getX w j) := by
  intro F ρ hh σ H Q wd er p
  refine sem_of (pe_ix (IxR.or ixD (ix_list (X := X))) pe_sem pe_sem (plainIx hs)) ?_
  refine ho F ρ hh σ H _ wd er (p.bnd.mono fun x H1 ⟨F1, ρ1, h1, a, x1, wd1, ra, p1⟩ => ?_)
  refine hi F1 ρ1 h1 σ H1 _ wd1 (er.mono x1.sub x1.pre) (p1.bnd.mono fun y H2 ⟨F2, ρ2, h2, b, x2, wd2, rb, p2⟩ => ?_)
  have ra2 := RepW.mono x2.sub x2.pre ra
  cases a with
  | r n =>
    cases b with
    | r i => exact p2.elim
    | d b =>
      obtain ⟨a, ea, rfl⟩ := ra2
      have p2 : Po (rW X.K) Wx X.K F2 ρ2 H2 σ (getX (.r n) (.d b) h2) Q := p2
      simp only [getX] at p2
      cases eh : h2[n]? with
      | none => rw [eh] at p2; exact p2.elim
      | some ob =>
        rw [eh] at p2
        cases ob with
        | lst ws =>
          obtain ⟨a', o, e1, e2, vs, rfl, rl⟩ := wd2.obs n _ eh
          rw [ea] at e1; cases e1
          simp only at p2
          cases b with
          | int j =>
            simp only at p2
            cases en : nth ws j with
            | none => rw [en] at p2; exact p2.elim
            | some w =>
              rw [en] at p2
              cases rb
              unfold nth L2.atI at en
              cases ej : ixN ws.length j with
              | none => rw [ej] at en; cases en
              | some m =>
                rw [ej] at en
                obtain ⟨v, h1, h2'⟩ := rl.get (i := m) (w := w) (by simpa using en)
                refine .inr ⟨a, vs, j, v, rfl, rfl, .of e2, ?_, p2 F2 ρ2 H2 v (.refl _ _ _) wd2 h2'⟩
                unfold L2.atI
                rw [← rl.length, ej]
                exact h1
          | _ => exact p2.elim
        | dic ks ws => exact p2.elim
        | ins _ _ _ => exact p2.elim
  | d a =>
    cases b with
    | r i => exact p2.elim
    | d b =>
      obtain ⟨d, e, q⟩ := po_ofD p2
      exact .inl ⟨F2, ρ2, h2, a, b, d, wd2, ra2, rb, e, q⟩
theorem so_none : SO X Wx env none (ret none) := by
  intro F ρ hh σ H Q wd er p
  exact semO_of po_none (p F ρ H none (.refl _ _ _) wd rfl)
theorem so_some {e : Expr} {m : M W} (h : SE X Wx env e m) : SO X Wx env (some e) (bnd m fun w => (match w with | .d (.int i) => ret (some i) | _ => bad)) := by
  intro F ρ hh σ H Q wd er p
  refine semO_of (po_some pe_sem) ?_
  refine h F ρ hh σ H _ wd er (p.bnd.mono fun x H1 ⟨F1, ρ1, h1, a, x1, wd1, ra, p1⟩ => ?_)
  cases a with
  | r i => exact p1.elim
  | d a =>
    cases a with
    | int i => cases ra; exact ⟨i, rfl, p1 F1 ρ1 H1 (some i) (.refl _ _ _) wd1 rfl⟩
    | _ => exact p1.elim
theorem se_slice (c : Cxt C k sc X Wx) {o : Expr} {lo hi : Option Expr} {pos p2 : Pos} {mo : M W} {ml mh : M (Option Int)} (ho : SE X Wx env o mo) (hl : SO X Wx env lo ml) (hh : SO X Wx env hi mh) :
    SE X Wx env (.Subscript o (.Slice lo hi none p2) pos) (bnd mo fun w => bnd ml fun a => bnd mh fun b => (match w with | .d x => ofD (sliceD x a b) | _ => bad)) := by
  intro F ρ h0 σ H Q wd er p
  refine sem_of (pe_slice slD pe_sem po_sem po_sem) ?_
  refine ho F ρ h0 σ H _ wd er (p.bnd.mono fun x H1 ⟨F1, ρ1, h1, a, x1, wd1, ra, p1⟩ => ?_)
  refine hl F1 ρ1 h1 σ H1 _ wd1 (er.mono x1.sub x1.pre) (p1.bnd.mono fun y H2 ⟨F2, ρ2, h2, b, x2, wd2, rb, p2⟩ => ?_)
  have er2 := (er.mono x1.sub x1.pre).mono x2.sub x2.pre
  refine hh F2 ρ2 h2 σ H2 _ wd2 er2 (p2.bnd.mono fun z H3 ⟨F3, ρ3, h3, d, x3, wd3, rd, p3⟩ => ?_)
  cases rb; cases rd
  have ra3 := RepW.mono x3.sub x3.pre (RepW.mono x2.sub x2.pre ra)
  cases a with
  | r i => exact p3.elim
  | d a =>
    obtain ⟨g, e, q⟩ := po_ofD p3
    exact ⟨F3, ρ3, h3, a, g, wd3, ra3, e, q⟩
end
end KR
/-! KR: calls. -/
namespace KR
open PySem PySem.Spec PyProof.Rows L2

/-! ### the state behind a call that ran by itself -/
section
variable {K : PySem.W.Frag} {F F' H H' : Hp} {ρ ρ' : List Addr} {h h' : Hs}
/-- more is frozen: what stood in the callee's objects -/
structure Froze (F' F2 H' : Hp) (ρ' : List Addr) : Prop where
  sub : Sub F' F2
  le : Sub F2 H'
  only : ∀ a, F2 a ≠ none → F' a ≠ none ∨ a ∈ ρ'
theorem Froze.refl (x : Sub F' H') : Froze F' F' H' ρ' := ⟨.refl _, x, fun _ h => .inl h⟩
theorem Froze.one (x : Sub F' H') {a : Addr} {o : HO} (ha : a ∈ ρ') (e : H' a = some o) (n : F' a = none) : Froze F' (upd F' a o) H' ρ' := by
  refine ⟨.new n o, fun b u q => ?_, fun b q => ?_⟩
  · by_cases c : b = a
    · subst c; rw [upd_same] at q; cases q; exact e
    · rw [upd_ne c] at q; exact x b u q
  · by_cases c : b = a
    · subst c; exact .inr ha
    · rw [upd_ne c] at q; exact .inl q
theorem frz_ok (wd : Wd K F' ρ' h' H') {w : W} {v : V} (r : RepW K F' ρ' w v) {d : D} (e : frz h' w = some d) : ∃ F2, Froze F' F2 H' ρ' ∧ Rep K F2 d v := by
  cases w with
  | d x => cases e; exact ⟨F', .refl wd.sub, r⟩
  | r i =>
    obtain ⟨a, ea, rfl⟩ := r
    have ha := List.mem_of_getElem? ea
    unfold frz at e
    simp only at e
    cases eh : h'[i]? with
    | none => rw [eh] at e; cases e
    | some ob =>
      rw [eh] at e
      obtain ⟨a', o, e1, e2, ro⟩ := wd.obs i _ eh
      rw [ea] at e1; cases e1
      cases ob with
      | lst ws =>
        simp only at e
        cases ed : datas ws with
        | none => rw [ed] at e; cases e
        | some xs =>
          rw [ed] at e; cases e
          obtain ⟨vs, rfl, rl⟩ := ro
          have fr := Froze.one wd.sub ha e2 (wd.free a ha)
          exact ⟨_, fr, a, vs, rfl, upd_same, RepL.mono fr.sub (RepWs.datas ed rl)⟩
      | ins c ns ws =>
        simp only at e
        cases ed : datas ws with
        | none => rw [ed] at e; cases e
        | some xs =>
          rw [ed] at e; cases e
          obtain ⟨dx, vs, rfl, rl, hl⟩ := ro
          have fr := Froze.one wd.sub ha e2 (wd.free a ha)
          refine ⟨_, fr, a, dx, vs, rfl, upd_same, RepL.mono fr.sub (RepWs.datas ed rl), ?_⟩
          rw [hl, datas_len ed]
      | dic ks ws => cases e
/-- the caller's state behind a call with no object of the caller's -/
theorem own_back {H0 : Hp} {ρ0 : List Addr} {F2 : Hp} (wd : Wd K F ρ h H) (hH : ∀ a o, H a = some o → H0 a = some o ∧ a ∉ ρ0) (h0 : ∀ a, H a = none → F a = none) (x : Ext F ρ0 H0 F' ρ' H') (fz : Froze F' F2 H' ρ') : Ext F ρ H F2 ρ H' ∧ Wd K F2 ρ h H' := by
  have keep : ∀ a o, H a = some o → H' a = some o := fun a o e => x.fr a o (hH a o e).1 (hH a o e).2
  have fs : ∀ a, F a = none → H a ≠ none → F2 a = none := fun a e n => by
    cases q : H a with
    | none => exact absurd q n
    | some o =>
      obtain ⟨q1, q2⟩ := hH a o q
      have n0 : H0 a ≠ none := by rw [q1]; simp
      have f1 := x.fs a e n0
      cases z : F2 a with
      | none => rfl
      | some u =>
        rcases fz.only a (by rw [z]; simp) with z1 | z1
        · exact absurd f1 z1
        · have := x.rs a z1 q2
          rw [q1] at this; cases this
  refine ⟨⟨x.sub.trans fz.sub, List.prefix_refl ρ, fun a o e _ => keep a o e, fs, fun a e n => absurd e n, fun a n => ?_⟩, fz.le, wd.len, wd.nd, fun a ha => fs a (wd.free a ha) (wd.alive ha), fun i b e => ?_⟩
  · cases q : H a with
    | none => exact absurd q n
    | some o => rw [keep a o q]; simp
  · obtain ⟨a, o, e1, e2, r⟩ := wd.obs i b e
    exact ⟨a, o, e1, keep a o e2, r.mono (x.sub.trans fz.sub) (List.prefix_refl ρ)⟩
end
section
variable {C : Cfg} {k : Nat} {sc : Scope} {X : Cx} {Wx : WX} {env : Env}
/-- what a def's call asks -/
theorem callF_sp (c : Cxt C k sc X Wx) {q : Str} {I : FnI} (hq : C.G.fn q = some I) {ws : List W} {vs : List V} {h : Hs} {F H : Hp} {ρ : List Addr} {σ : L2.St} {Q : VK} (wd : Wd X.K F ρ h H) (r : RepWs X.K F ρ ws vs)
    (p : Po (rW X.K) Wx X.K F ρ H σ (callF C.G C.cl q ws h) Q) : spR X.K C.cl q I.ps.length vs H Q (WE Wx σ) := by
  have direct : Po (rW X.K) Wx X.K F ρ H σ (C.cl q ws h) Q → spR X.K C.cl q I.ps.length vs H Q (WE Wx σ) := fun p => by
    refine ⟨?_, F, ρ, h, ws, wd, r, ?_⟩
    · rcases c.gl.len q I ws h hq with e | e
      · rw [e] at p; exact p.elim
      · rw [← r.length]; exact e
    · cases e : C.cl q ws h with
      | ok w h' => rw [e] at p; exact p
      | ex c h' => rw [e] at p; exact p
      | no => rw [e] at p; exact p
  unfold callF at p
  cases e : C.G.imp q with
  | true => rw [e] at p; exact direct p
  | false =>
    rw [e] at p
    simp only at p
    cases ed : datas ws with
    | none => rw [ed] at p; exact direct p
    | some xs =>
      rw [ed] at p
      have p : Po (rW X.K) Wx X.K F ρ H σ (callP C.cl q ws h) Q := p
      have wd0 : Wd X.K F [] [] H := ⟨wd.sub, rfl, List.nodup_nil, (fun _ h => nomatch h), fun i b e => nomatch (show (none : Option Ob) = some b by simpa using e)⟩
      have r0 : RepWs X.K F [] ws vs := by
        rw [datas_map ed]
        exact RepWs.ofL (RepWs.datas ed r)
      have hH : ∀ a o, H a = some o → H a = some o ∧ a ∉ ([] : List Addr) := fun a o e => ⟨e, by simp⟩
      refine ⟨?_, F, [], [], ws, wd0, r0, ?_⟩
      · rcases c.gl.len q I ws [] hq with e | e
        · unfold callP at p; rw [e] at p; exact p.elim
        · rw [← r.length]; exact e
      · unfold callP at p
        cases e : C.cl q ws [] with
        | no => rw [e] at p; exact p
        | ex cn h' =>
          rw [e] at p
          intro F' ρ' H' d x wd'
          obtain ⟨x2, wd2⟩ := own_back wd hH (fun a e => wd.sub.none e) x (.refl wd'.sub)
          exact p F' ρ H' d x2 wd2
        | ok w h' =>
          rw [e] at p
          intro F' ρ' H' v x wd' rv
          simp only at p
          cases ef : frz h' w with
          | none => rw [ef] at p; exact p.elim
          | some d =>
            rw [ef] at p
            obtain ⟨F2, fz, rd⟩ := frz_ok wd' rv ef
            obtain ⟨x2, wd2⟩ := own_back wd hH (fun a e => wd.sub.none e) x fz
            exact p F2 ρ H' v x2 wd2 rd
theorem plain_of {pos : Pos} {E : PySem.Env} : ∀ {es : List Expr}, (es.all notStar) = true → (backTo pos (starEach es E)).any (·.1) = false
  | [], _ => rfl
  | e :: es, h => by
    obtain ⟨h1, h2⟩ := Bool.and_eq_true_iff.mp (show (notStar e && es.all notStar) = true from h)
    rw [star_of h1]
    show (false || (backTo pos (starEach es E)).any (·.1)) = false
    rw [plain_of h2]; rfl
/-- f(e, ..), f a def of the module -/
theorem se_call (c : Cxt C k sc X Wx) {x : Str} {I : FnI} {p0 pos : Pos} {args : List Expr} {ms : M (List W)} (hg : glo sc x = true) (hf : C.G.fn x = some I) (hl : C.G.glb x = true) (hne : args ≠ []) (hn : args.all notStar = true) (hs : SA X Wx env args ms) :
    SE X Wx env (.Call (.Name x p0) args [] pos) (bnd ms fun ws => callF C.G C.cl x ws) := by
  intro F ρ h σ H Q wd er p
  obtain ⟨g1, g2, fd, G1, B1⟩ := c.gl.glb x I hf hl
  have hr : Room (2 * k + 1) X.A := c.room.mono (by omega)
  have dbg := (okName1 (Bool.and_eq_true_iff.mp hg).1).1
  obtain ⟨e, es, rfl⟩ : ∃ e es, args = e :: es := by
    cases args with
    | nil => exact absurd rfl hne
    | cons e es => exact ⟨e, es, rfl⟩
  refine sem_of (pe_callSD G1 hr (c.glo hg) g1 g2 B1 .nil (fun σ => passAt c.tk σ) pa_sem dbg (star_of (Bool.and_eq_true_iff.mp hn).1) (plain_of (Bool.and_eq_true_iff.mp hn).2)) ?_
  refine hs F ρ h σ H _ wd er (p.bnd.mono fun vs H1 ⟨F1, ρ1, h1, a, x1, wd1, ra, p1⟩ => ?_)
  rw [List.append_nil]
  exact callF_sp c hf wd1 ra p1
theorem se_call0 (c : Cxt C k sc X Wx) {x : Str} {I : FnI} {p0 pos : Pos} (hg : glo sc x = true) (hf : C.G.fn x = some I) (hl : C.G.glb x = true) : SE X Wx env (.Call (.Name x p0) [] [] pos) (callF C.G C.cl x []) := by
  intro F ρ h σ H Q wd er p pins s I0
  obtain ⟨g1, g2, fd, G1, B1⟩ := c.gl.glb x I hf hl
  have hr : Room (2 * k + 1) X.A := c.room.mono (by omega)
  refine wpAny_Call_Name_kw (ld_glob I0 (c.glo hg) g1 ?_ (okName1 (Bool.and_eq_true_iff.mp hg).1).1)
  exact PySem.W.callWith_K0 I0.kIn g2 (run_fnSD (us := []) (vs := []) (dvs := []) (ds := []) (E := WE Wx) G1 hr B1 .nil (passAt c.tk σ) I0 .nil (callF_sp (ws := []) (vs := []) c hf wd (show RepWs X.K F ρ [] [] from rfl) p))
/-! ### an instance is made -/
theorem run_makeS {D f : Addr} {fd : FuncData} {ps : List Str} {sp : Sp} {j : Nat} {E : XK} {pins : List (Addr × Obj)} {σ : L2.St} {H : Hp} {s : Shared} {Q : VK} {us : List Value} {vs : List V} (M : Mk X.K D f) (G : FnOk X.prog X.w X.K X.mg X.base (L2.CX X.prog X.w) j f fd ps sp) (hr : Room (j + 1) X.A)
    (hb : Binds X.K fd ps []) (hx : PassesAt (L2.CX X.prog X.w) X σ E) (I : Inv X pins σ H s) (r : Vals vs us)
    (h : ∀ x dx, H x = none → H dx = none → dx ≠ x → sp (.ref x :: vs) (upd (upd H dx (.own x)) x (.ins D dx [])) (fun v H2 => v = .non ∧ Q (.ref x) H2) E) : wpAny (model X.prog X.w) X.A (PySem.call (.ref D) us) (EP X pins σ Q) X.xe s := by
  have want := h (s.heap.objs.size + 1) s.heap.objs.size (I.hok.fresh (Nat.le_succ _)) (I.hok.fresh (Nat.le_refl _)) (Nat.ne_of_lt (Nat.lt_succ_self _))
  have J := Inv.made (C := D) I
  have args : Vals (V.ref (s.heap.objs.size + 1) :: vs) (Value.ref (s.heap.objs.size + 1) :: us) := .cons rfl r
  have many : (Value.ref (s.heap.objs.size + 1) :: us ++ []).length = ps.length := by
    rw [List.append_nil, ← args.length]
    exact G.len _ _ _ _ want
  have bnd0 := hb _ (Value.ref (s.heap.objs.size + 1) :: us) J.kIn many
  rw [List.append_nil] at bnd0
  refine wpAny_call (make_map (f := f) I.kIn M.makes M.init (beq_iff_eq.mp M.fn) (codeAny_mono (G.run _ X.stack _ _ _ _ _ _ E (hr.make D us []) (J.env0.make D us []) bnd0 args want) fun res s' done => ?_))
  cases res with
  | error e => exact hx pins _ _ e s' J done
  | ok fl =>
    cases fl with
    | ret u =>
      obtain ⟨v, H2, I2, rv, ev, q⟩ := J.after done
      subst ev
      exact ⟨rv, ⟨V.ref (s.heap.objs.size + 1), H2, I2, rfl, q⟩⟩
    | next => exact done.elim
    | brk => exact done.elim
    | cont => exact done.elim
theorem make_sp (c : Cxt C k sc X Wx) {cn : Str} {fz : Bool} {I : FnI} (hq : C.G.fn (cn ++ ("." : Str) ++ ("__init__" : Str)) = some I) {ws : List W} {vs : List V} {h : Hs} {F H : Hp} {ρ : List Addr} {σ : L2.St} {Q : VK} (wd : Wd X.K F ρ h H) (r : RepWs X.K F ρ ws vs)
    (p : Po (rW X.K) Wx X.K F ρ H σ (make C.G C.cl cn fz ws h) Q) {x dx : Addr} (hx : H x = none) (hdx : H dx = none) (hne : dx ≠ x) :
    spR X.K C.cl (cn ++ ("." : Str) ++ ("__init__" : Str)) I.ps.length (.ref x :: vs) (upd (upd H dx (.own x)) x (.ins (He.ga X.K cn) dx [])) (fun v H2 => v = .non ∧ Q (.ref x) H2) (WE Wx σ) := by
  have hx1 : (upd H dx (.own x)) x = none := by rw [upd_ne hne.symm]; exact hx
  have keep : ∀ a o, H a = some o → upd (upd H dx (.own x)) x (.ins (He.ga X.K cn) dx []) a = some o := fun a o e => by
    rw [upd_ne (ne_of_none e hx), upd_ne (ne_of_none e hdx)]; exact e
  cases fz with
  | true =>
    unfold make at p
    simp only at p
    cases ed : datas ws with
    | none => rw [ed] at p; exact p.elim
    | some xs =>
      rw [ed] at p
      simp only at p
      have wd0 : Wd X.K F [x] [.ins cn [] []] (upd (upd H dx (.own x)) x (.ins (He.ga X.K cn) dx [])) := by
        refine ⟨wd.sub.trans keep, rfl, by simp, fun a ha => ?_, fun i b e => ?_⟩
        · have : a = x := by simpa using ha
          subst this
          exact wd.sub.none hx
        · cases i with
          | zero =>
            have : b = .ins cn [] [] := by simpa using e.symm
            subst this
            exact ⟨x, _, rfl, upd_same, dx, [], rfl, rfl, rfl⟩
          | succ i => simp at e
      have r0 : RepWs X.K F [x] (.r 0 :: ws) (.ref x :: vs) := ⟨_, _, rfl, ⟨x, rfl, rfl⟩, by
        rw [datas_map ed]
        exact RepWs.ofL (RepWs.datas ed r)⟩
      have hH : ∀ a o, H a = some o → upd (upd H dx (.own x)) x (.ins (He.ga X.K cn) dx []) a = some o ∧ a ∉ [x] := fun a o e => ⟨keep a o e, by
        have := ne_of_none e hx
        simpa using this⟩
      refine ⟨?_, F, [x], [.ins cn [] []], .r 0 :: ws, wd0, r0, ?_⟩
      · rcases c.gl.len _ I (.r 0 :: ws) [.ins cn [] []] hq with e | e
        · rw [e] at p; exact p.elim
        · rw [← r0.length]; exact e
      · cases e : C.cl (cn ++ ("." : Str) ++ ("__init__" : Str)) (.r 0 :: ws) [.ins cn [] []] with
        | no => rw [e] at p; exact p
        | ex en h' =>
          rw [e] at p
          intro F' ρ' H' d y wd'
          obtain ⟨x2, wd2⟩ := own_back wd hH (fun a e => wd.sub.none e) y (.refl wd'.sub)
          exact p F' ρ H' d x2 wd2
        | ok w h' =>
          rw [e] at p
          intro F' ρ' H' v y wd' rv
          cases w with
          | r i => exact p.elim
          | d dd =>
            cases dd with
            | non =>
              simp only at p
              cases ef : frz h' (.r 0) with
              | none => rw [ef] at p; exact p.elim
              | some d =>
                rw [ef] at p
                have rx : RepW X.K F' ρ' (.r 0) (.ref x) := ⟨x, pre_get y.pre (i := 0) rfl, rfl⟩
                obtain ⟨F2, fz, rd⟩ := frz_ok wd' rx ef
                obtain ⟨x2, wd2⟩ := own_back wd hH (fun a e => wd.sub.none e) y fz
                exact ⟨rv, p F2 ρ H' _ x2 wd2 rd⟩
            | _ => exact p.elim
  | false =>
    unfold make at p
    simp only at p
    have hx2 : ∀ (o : HO), Wd X.K F ρ h H → True := fun _ _ => trivial
    have wd1 : Wd X.K F ρ h (upd H dx (.own x)) := by
      refine ⟨wd.sub.trans fun a o e => by rw [upd_ne (ne_of_none e hdx)]; exact e, wd.len, wd.nd, wd.free, fun i b e => ?_⟩
      obtain ⟨a, o, e1, e2, r2⟩ := wd.obs i b e
      exact ⟨a, o, e1, by rw [upd_ne (ne_of_none e2 hdx)]; exact e2, r2⟩
    have wd0 : Wd X.K F (ρ ++ [x]) (h ++ [.ins cn [] []]) (upd (upd H dx (.own x)) x (.ins (He.ga X.K cn) dx [])) := wd1.push hx1 ⟨dx, [], rfl, rfl, rfl⟩
    have ex1 : Ext F ρ H F (ρ ++ [x]) (upd (upd H dx (.own x)) x (.ins (He.ga X.K cn) dx [])) := by
      refine ⟨.refl F, List.prefix_append ρ [x], fun a o e _ => keep a o e, fun a e _ => e, fun a e n => ?_, fun a n => ?_⟩
      · rcases List.mem_append.mp e with e | e
        · exact absurd e n
        · have : a = x := by simpa using e
          rw [this]; exact hx
      · cases q : H a with
        | none => exact absurd q n
        | some o => rw [keep a o q]; simp
    have gx : (ρ ++ [x])[h.length]? = some x := by
      rw [← wd.len, List.getElem?_append_right (Nat.le_refl _), Nat.sub_self]; rfl
    have r0 : RepWs X.K F (ρ ++ [x]) (.r h.length :: ws) (.ref x :: vs) := ⟨_, _, rfl, ⟨x, gx, rfl⟩, r.mono (.refl F) (List.prefix_append ρ [x])⟩
    refine ⟨?_, F, ρ ++ [x], h ++ [.ins cn [] []], .r h.length :: ws, wd0, r0, ?_⟩
    · rcases c.gl.len _ I (.r h.length :: ws) (h ++ [.ins cn [] []]) hq with e | e
      · rw [e] at p; exact p.elim
      · rw [← r0.length]; exact e
    · cases e : C.cl (cn ++ ("." : Str) ++ ("__init__" : Str)) (.r h.length :: ws) (h ++ [.ins cn [] []]) with
      | no => rw [e] at p; exact p
      | ex en h' =>
        rw [e] at p
        exact fun F' ρ' H' d y wd' => p F' ρ' H' d (ex1.trans y) wd'
      | ok w h' =>
        rw [e] at p
        intro F' ρ' H' v y wd' rv
        cases w with
        | r i => exact p.elim
        | d dd =>
          cases dd with
          | non => exact ⟨rv, p F' ρ' H' _ (ex1.trans y) wd' ⟨x, pre_get y.pre gx, rfl⟩⟩
          | _ => exact p.elim
theorem se_make (c : Cxt C k sc X Wx) {x : Str} {fz : Bool} {p0 pos : Pos} {args : List Expr} {ms : M (List W)} (hg : glo sc x = true) (hf : C.G.cls x = some fz) (hne : args ≠ []) (hn : args.all notStar = true) (hs : SA X Wx env args ms) :
    SE X Wx env (.Call (.Name x p0) args [] pos) (bnd ms fun ws => make C.G C.cl x fz ws) := by
  intro F ρ h σ H Q wd er p
  obtain ⟨g1, g2, g3, I, g4⟩ := c.gl.cls x fz hf
  obtain ⟨g5, fd, G1, B1⟩ := c.gl.met x "__init__" I (by rw [hf]; simp) g4
  obtain ⟨e, es, rfl⟩ : ∃ e es, args = e :: es := by
    cases args with
    | nil => exact absurd rfl hne
    | cons e es => exact ⟨e, es, rfl⟩
  have q : tSemA X (e :: es) σ H (fun vs H1 => ∀ y dy, H1 y = none → H1 dy = none → dy ≠ y →
      spR X.K C.cl (x ++ ("." : Str) ++ ("__init__" : Str)) I.ps.length (.ref y :: vs) (upd (upd H1 dy (.own y)) y (.ins (He.ga X.K x) dy [])) (fun v H2 => v = .non ∧ Q (.ref y) H2) (WE Wx σ)) := by
    refine hs F ρ h σ H _ wd er (p.bnd.mono fun vs H1 ⟨F1, ρ1, h1, a, x1, wd1, ra, p1⟩ => ?_)
    exact fun y dy n1 n2 n3 => make_sp c g4 wd1 ra p1 n1 n2 n3
  intro pins s I0
  refine wpAny_Call_Name_kw (ld_glob I0 (c.glo hg) g2 ?_ (okName1 (Bool.and_eq_true_iff.mp hg).1).1)
  refine PySem.W.callWith_K (first := []) (h₀ := X.base) I0.ok.mod.kin g3.kp (thn (q pos pins s I0) fun us s1 hx => ?_) (star_of (Bool.and_eq_true_iff.mp hn).1) (plain_of (Bool.and_eq_true_iff.mp hn).2)
  obtain ⟨vs, H1, I1, r, want⟩ := hx
  exact ⟨I1.kIn, run_makeS g3 G1 c.room B1 (passAt c.tk σ) I1 r want⟩
/-! ### built-in defs -/
theorem blt_in {x : Str} {xs : List D} {d : D} (e : blt x xs = some d) : x ∈ (["len", "int", "str", "abs", "max", "min", "bool", "tuple", "list"] : List Str) := by
  unfold blt at e
  by_cases h1 : x = "len"
  · simp [h1]
  rw [if_neg h1] at e
  by_cases h2 : x = "int"
  · simp [h2]
  rw [if_neg h2] at e
  by_cases h3 : x = "str"
  · simp [h3]
  rw [if_neg h3] at e
  by_cases h4 : x = "abs"
  · simp [h4]
  rw [if_neg h4] at e
  by_cases h5 : x = "max"
  · simp [h5]
  rw [if_neg h5] at e
  by_cases h6 : x = "min"
  · simp [h6]
  rw [if_neg h6] at e
  by_cases h7 : x = "bool"
  · simp [h7]
  rw [if_neg h7] at e
  by_cases h8 : x = "tuple"
  · simp [h8]
  rw [if_neg h8] at e
  by_cases h9 : x = "list"
  · simp [h9]
  rw [if_neg h9] at e
  cases e
/-- a built-in def's reading, whichever it is -/
theorem pe_blt (c : Cxt C k sc X Wx) {x : Str} {p0 pos : Pos} {e : Expr} {es : List Expr} (hg : glo sc x = true) (hn : (e :: es).all notStar = true) (hx : x ∈ (["len", "int", "str", "abs", "max", "min", "bool", "tuple", "list"] : List Str)) :
    PE X (.Call (.Name x p0) (e :: es) [] pos) (tCB (rDc X.K (blt x)) (tSemA X (e :: es))) := by
  have h0 := c.glo hg
  have s1 : starEach (e :: es) X.env = (false, eval e X.env) :: starEach es X.env := star_of (Bool.and_eq_true_iff.mp hn).1
  have s2 : (backTo pos (starEach es X.env)).any (·.1) = false := plain_of (Bool.and_eq_true_iff.mp hn).2
  simp only [List.mem_cons, List.not_mem_nil, or_false] at hx
  rcases hx with rfl | rfl | rfl | rfl | rfl | rfl | rfl | rfl | rfl
  · exact pe_callB cB_len h0 (c.gl.blt _ (by decide)) PySem.boot_len pa_sem (by decide) (by decide) s1 s2
  · exact pe_callTy cT_int h0 (c.gl.blt _ (by decide)) (by decide +kernel) pa_sem (by decide) (by decide) s1 s2
  · exact pe_callTy cT_str h0 (c.gl.blt _ (by decide)) (by decide +kernel) pa_sem (by decide) (by decide) s1 s2
  · exact pe_callB cB_abs h0 (c.gl.blt _ (by decide)) (by decide +kernel) pa_sem (by decide) (by decide) s1 s2
  · exact pe_callB (cB_max c.calm) h0 (c.gl.blt _ (by decide)) (by decide +kernel) pa_sem (by decide) (by decide) s1 s2
  · exact pe_callB (cB_min c.calm) h0 (c.gl.blt _ (by decide)) (by decide +kernel) pa_sem (by decide) (by decide) s1 s2
  · exact pe_callTy cT_bool h0 (c.gl.blt _ (by decide)) (by decide +kernel) pa_sem (by decide) (by decide) s1 s2
  · exact pe_callTy cT_tuple h0 (c.gl.blt _ (by decide)) (by decide +kernel) pa_sem (by decide) (by decide) s1 s2
  · exact pe_callTy cT_list h0 (c.gl.blt _ (by decide)) (by decide +kernel) pa_sem (by decide) (by decide) s1 s2
theorem se_blt (c : Cxt C k sc X Wx) {x : Str} {p0 pos : Pos} {args : List Expr} {ms : M (List W)} (hg : glo sc x = true) (hx : x ∈ (["len", "int", "str", "abs", "max", "min", "bool", "tuple", "list"] : List Str)) (hne : args ≠ []) (hn : args.all notStar = true) (hs : SA X Wx env args ms) :
    SE X Wx env (.Call (.Name x p0) args [] pos) (bnd ms fun ws => (match datas ws with | some xs => ofD (blt x xs) | none => bad)) := by
  intro F ρ h σ H Q wd er p
  obtain ⟨e, es, rfl⟩ : ∃ e es, args = e :: es := by
    cases args with
    | nil => exact absurd rfl hne
    | cons e es => exact ⟨e, es, rfl⟩
  refine sem_of (pe_blt c hg hn hx) ?_
  refine hs F ρ h σ H _ wd er (p.bnd.mono fun vs H1 ⟨F1, ρ1, h1, a, x1, wd1, ra, p1⟩ => ?_)
  obtain ⟨xs, e, rl, p2⟩ := po_datas (γ := W) (f := fun xs => ofD (blt x xs)) ra p1
  obtain ⟨d, e2, q⟩ := po_ofD p2
  exact ⟨F1, ρ1, h1, xs, d, wd1, rl, e2, q⟩
/-- len of a list that may change -/
theorem cB_lenW : CallR X (.builtin "len") (fun xs H Q => rDc X.K (blt "len") xs H Q ∨ ∃ p ys, xs = [.ref p] ∧ (SqL X.K H p ys ∨ SqT X.K H p ys) ∧ Q (.int ys.length) H) := by
  intro pins s σ H xs us Q I r q
  rcases q with q | q
  · exact cB_len pins s σ H xs us Q I r q
  · exact call_len_seq pins s σ H xs us Q I r q
theorem se_len (c : Cxt C k sc X Wx) {p0 pos : Pos} {a : Expr} {m : M W} (hg : glo sc "len" = true) (hn : notStar a = true) (ha : SE X Wx env a m) : SE X Wx env (.Call (.Name "len" p0) [a] [] pos) (bnd m fun w => lenW w) := by
  intro F ρ h σ H Q wd er p
  refine sem_of (pe_callB cB_lenW (c.glo hg) (c.gl.blt _ (by decide)) PySem.boot_len (pa_cons pe_sem pa_nil (star_of hn)) (by decide) (by decide) (star_of hn) rfl) ?_
  refine ha F ρ h σ H _ wd er (p.bnd.mono fun x H1 ⟨F1, ρ1, h1, w, x1, wd1, ra, p1⟩ => ?_)
  cases w with
  | d d =>
    obtain ⟨g, e2, q⟩ := po_ofD (o := blt "len" [d]) p1
    exact .inl ⟨F1, ρ1, h1, [d], g, wd1, ⟨x, [], rfl, ra, rfl⟩, e2, q⟩
  | r i =>
    obtain ⟨b, eb, rfl⟩ := ra
    have p1 : Po (rW X.K) Wx X.K F1 ρ1 H1 σ (lenW (.r i) h1) Q := p1
    simp only [lenW] at p1
    cases eh : h1[i]? with
    | none => rw [eh] at p1; exact p1.elim
    | some ob =>
      rw [eh] at p1
      cases ob with
      | lst ws =>
        obtain ⟨a', o, e1, e2, vs, rfl, rl⟩ := wd1.obs i _ eh
        rw [eb] at e1; cases e1
        simp only at p1
        split at p1
        · refine .inr ⟨b, vs, rfl, .inl (.of e2), ?_⟩
          rw [← rl.length]
          exact p1 F1 ρ1 H1 _ (.refl _ _ _) wd1 rfl
        · exact p1.elim
      | _ => exact p1.elim
/-! ### isinstance -/
theorem tyX_of {F H : Hp} (s : Sub F H) {d : D} {v : V} (r : Rep X.K F d v) : match d with
    | .non => TyX X.K H v (.type "NoneType")
    | .bl _ => TyX X.K H v (.type "bool")
    | .int _ => TyX X.K H v (.type "int")
    | .str _ => TyX X.K H v (.type "str")
    | .tup _ => TyX X.K H v (.type "tuple")
    | .lst _ => TyX X.K H v (.type "list")
    | _ => True := by
  cases d with
  | non => cases r; exact .base .non
  | bl b => cases r; exact .base (.bl b)
  | int i => cases r; exact .base (.int i)
  | str t => obtain ⟨rfl, _⟩ := r; exact .base (.str _)
  | tup xs =>
    obtain ⟨a, vs, rfl, g, _⟩ := r
    rcases g with ⟨o, e, _⟩ | ⟨o, its, n, e, hc, _⟩
    · exact .fTuple (s _ _ e)
    · exact .kTuple e hc
  | lst xs => obtain ⟨a, vs, rfl, g, _⟩ := r; exact .base (.lst (s _ _ g))
  | ins _ _ _ => trivial
  | scr _ => trivial
theorem cls_v {T : Str} {t : Nat} (e : tyT T = some t) : ∃ n : String, T = (n : Str) ∧ bootBuiltins T = some (.type n) ∧ T ∈ bltNames ∧ okName T = true ∧ ((t = 1 ∧ n = "bool") ∨ (t = 2 ∧ n = "int") ∨ (t = 3 ∧ n = "str") ∨ (t = 4 ∧ n = "tuple") ∨ (t = 5 ∧ n = "list")) := by
  unfold tyT at e
  by_cases h1 : T = "bool"
  · subst h1; rw [if_pos rfl] at e; cases e; exact ⟨"bool", rfl, by decide +kernel, by decide, by decide, by simp⟩
  rw [if_neg h1] at e
  by_cases h2 : T = "int"
  · subst h2; rw [if_pos rfl] at e; cases e; exact ⟨"int", rfl, by decide +kernel, by decide, by decide, by simp⟩
  rw [if_neg h2] at e
  by_cases h3 : T = "str"
  · subst h3; rw [if_pos rfl] at e; cases e; exact ⟨"str", rfl, by decide +kernel, by decide, by decide, by simp⟩
  rw [if_neg h3] at e
  by_cases h4 : T = "tuple"
  · subst h4; rw [if_pos rfl] at e; cases e; exact ⟨"tuple", rfl, by decide +kernel, by decide, by decide, by simp⟩
  rw [if_neg h4] at e
  by_cases h5 : T = "list"
  · subst h5; rw [if_pos rfl] at e; cases e; exact ⟨"list", rfl, by decide +kernel, by decide, by decide, by simp⟩
  rw [if_neg h5] at e
  cases e
theorem isi_ok {T : Str} {d : D} {b : Bool} {n : String} {t : Nat} (e : isiD T d = some b) (hT : tyT T = some t) (hm : (t = 1 ∧ n = "bool") ∨ (t = 2 ∧ n = "int") ∨ (t = 3 ∧ n = "str") ∨ (t = 4 ∧ n = "tuple") ∨ (t = 5 ∧ n = "list")) {F H : Hp} (s : Sub F H) {v : V} (r : Rep X.K F d v) :
    ∃ t, TyX X.K H v t ∧ PySem.W.kitOne X.K t (.type n) = some b := by
  have ty := tyX_of (X := X) s r
  unfold isiD at e
  rw [hT] at e
  rcases hm with ⟨rfl, rfl⟩ | ⟨rfl, rfl⟩ | ⟨rfl, rfl⟩ | ⟨rfl, rfl⟩ | ⟨rfl, rfl⟩ <;> cases d <;> first
    | (cases e; done)
    | (cases e; exact ⟨_, ty, kit_ty (by decide +kernel)⟩)
theorem se_isi (c : Cxt C k sc X Wx) {p0 pos p1 : Pos} {a : Expr} {T : Str} {m : M W} (hg : glo sc "isinstance" = true) (hT : glo sc T = true) (hT2 : (tyT T).isSome = true) (hn : notStar a = true) (ha : SE X Wx env a m) :
    SE X Wx env (.Call (.Name "isinstance" p0) [a, .Name T p1] [] pos) (bnd m fun w => (match w with | .d d => ofD ((isiD T d).map D.bl) | _ => bad)) := by
  intro F ρ h σ H Q wd er p
  obtain ⟨t, ht⟩ := Option.isSome_iff_exists.mp hT2
  obtain ⟨n, e1, e2, e3, e4, e5⟩ := cls_v ht
  have o := okName1 e4
  refine sem_of (pe_callB call_isi (c.glo hg) (c.gl.blt _ (by decide)) (by decide +kernel) (pa_cons pe_sem (pa_cons (pe_bltn (v := .ty n) (c.glo hT) (c.gl.blt _ e3) e2 rfl o.2.2 o.1) pa_nil rfl) (star_of hn)) (by decide) (by decide) (star_of hn) rfl) ?_
  refine ha F ρ h σ H _ wd er (p.bnd.mono fun x H1 ⟨F1, ρ1, h1, w, x1, wd1, ra, p1⟩ => ?_)
  cases w with
  | r i => exact p1.elim
  | d d =>
    obtain ⟨g, e6, q⟩ := po_ofD p1
    cases e7 : isiD T d with
    | none => rw [e7] at e6; cases e6
    | some b =>
      rw [e7] at e6
      cases e6
      obtain ⟨t, h1, h2⟩ := isi_ok (X := X) e7 ht e5 wd1.sub ra
      exact ⟨x, .ty n, t, .type n, b, rfl, .ty n, h1, h2, q.here wd1 rfl⟩
/-! ### methods -/
theorem plain_canLay {d : PyData} (h : SeqAt.shaped d = true) : d.plain = true := PyData.plain_of_canLay0 d (SeqAt.canLay_of_shaped h)
theorem plainAll_of {xs : List D} (h : (D.tup xs).flat = true) {F H : Hp} {vs : List V} (s : Sub F H) (r : RepL X.K F xs vs) : DpAll X.K H vs (D.pyL xs) ∧ PyData.plainAll (D.pyL xs) = true ∧ PyData.depthAll (D.pyL xs) ≤ 63 := by
  have l : D.depL xs + 1 ≤ 64 := by simpa [D.flat, D.dep] using h
  obtain ⟨h1, h2⟩ := RepL.dp s (xs := xs) (by omega) r
  refine ⟨h1, ?_, by rw [pyL_dep (by omega)]; omega⟩
  have := PyData.plain_of_canLay0 (.tuple (D.pyL xs)) h2
  exact this
theorem countP_py (x : D) (hx : x.dep ≤ 64) : ∀ ys : List D, D.depL ys ≤ 64 → (D.pyL ys).countP (fun y => PyData.eqv y x.py) = countD x ys
  | [], _ => rfl
  | y :: ys, h => by
    simp only [D.depL] at h
    have ih := countP_py x hx ys (by omega)
    unfold countD at *
    show List.countP _ (y.py :: D.pyL ys) = _
    rw [List.countP_cons, List.countP_cons, ih, py_eq y x (by omega) hx]
theorem mD_countT (hu : X.A.units + 130 < cLine) : MtR X "tuple.count" (rDm X.K fun a xs => match a with | .tup l => seqM "count" l xs | _ => none) := by
  intro pins s σ H x xs v us Q I rx rxs ⟨F, ρ, h, a, ds, d, wd, ra, rl, e, q⟩
  cases a <;> try (cases e; done)
  rename_i l
  simp only [seqM, if_true] at e
  split at e <;> try (cases e; done)
  rename_i y
  obtain ⟨w, rfl, rw0⟩ := rl.one
  split at e
  · rename_i hf
    cases e
    obtain ⟨f1, f2⟩ := Bool.and_eq_true_iff.mp hf
    obtain ⟨p, vs, rfl, g, rr⟩ := ra
    cases rx
    obtain ⟨u, rfl, ru⟩ := Vals.one rxs
    obtain ⟨d1, s1⟩ := rw0.shaped wd.sub f1
    obtain ⟨bs, rd⟩ := Dp.reads I _ _ _ d1 ru
    obtain ⟨its, rv, it, hz⟩ := I.tuple (GT.mono wd.sub g).t
    obtain ⟨h1, h2, h3⟩ := plainAll_of f2 wd.sub rr
    obtain ⟨as, ha⟩ := Dp.readsAll I _ _ its h1 rv
    have f1' : y.dep ≤ 64 := by simpa [D.flat] using f1
    have f2' : D.depL l + 1 ≤ 64 := by simpa [D.flat, D.dep] using f2
    refine SeqAt.count_tuple_data (vs := its.toArray) it (by simpa using ha) rd h2 (plain_canLay s1) ?_ ⟨.int _, H, I.tok _, ⟨_, by rw [countP_py y f1' l (by omega)]⟩, q.here wd rfl⟩
    have := Nat.min_le_left (PyData.depthAll (D.pyL l)) y.py.depth
    omega
  · cases e
theorem mD_countL (hu : X.A.units + 130 < cLine) : MtR X "list.count" (rDm X.K fun a xs => match a with | .lst l => seqM "count" l xs | _ => none) := by
  intro pins s σ H x xs v us Q I rx rxs ⟨F, ρ, h, a, ds, d, wd, ra, rl, e, q⟩
  cases a <;> try (cases e; done)
  rename_i l
  simp only [seqM, if_true] at e
  split at e <;> try (cases e; done)
  rename_i y
  obtain ⟨w, rfl, rw0⟩ := rl.one
  split at e
  · rename_i hf
    cases e
    obtain ⟨f1, f2⟩ := Bool.and_eq_true_iff.mp hf
    obtain ⟨p, vs, rfl, g, rr⟩ := ra
    cases rx
    obtain ⟨u, rfl, ru⟩ := Vals.one rxs
    obtain ⟨d1, s1⟩ := rw0.shaped wd.sub f1
    obtain ⟨bs, rd⟩ := Dp.reads I _ _ _ d1 ru
    obtain ⟨its, rv, it, hz⟩ := I.list (.of (wd.sub _ _ g))
    obtain ⟨h1, h2, h3⟩ := plainAll_of f2 wd.sub rr
    obtain ⟨as, ha⟩ := Dp.readsAll I _ _ its h1 rv
    have f1' : y.dep ≤ 64 := by simpa [D.flat] using f1
    have f2' : D.depL l + 1 ≤ 64 := by simpa [D.flat, D.dep] using f2
    refine SeqAt.count_list_data (vs := its.toArray) it.isList (by simpa using ha) rd h2 (plain_canLay s1) ?_ ⟨.int _, H, I.tok _, ⟨_, by rw [countP_py y f1' l (by omega)]⟩, q.here wd rfl⟩
    have := Nat.min_le_left (PyData.depthAll (D.pyL l)) y.py.depth
    omega
  · cases e
/-- a receiver of a built-in type -/
def recvT : D → Option String
  | .str _ => some "str"
  | .lst _ => some "list"
  | .tup _ => some "tuple"
  | _ => none
theorem recv_ok {pins : List (Addr × Obj)} {σ : L2.St} {H F : Hp} {s : Shared} (I : Inv X pins σ H s) (sb : Sub F H) {d : D} {v : V} {u : Value} (r : Rep X.K F d v) (ru : RelV v u) {T : String} (e : recvT d = some T) :
    s.TypeIs u T ∧ ∀ a, u = .ref a → ∃ ob, s.heap.get? a = some ob ∧ ob.dict = none := by
  cases d <;> simp only [recvT] at e <;> cases e
  · obtain ⟨rfl, _⟩ := r
    exact tyV_is I ru (T := "str") rfl
  · obtain ⟨a, vs, rfl, g, _⟩ := r
    cases ru
    rcases g with ⟨o, e, hc, hd⟩ | ⟨o, its, n, e, hc, hd, _⟩
    · obtain ⟨h1, _⟩ := (show ObjOk X.prog X.w H s.heap a (.frz o (.tup vs)) from I.hok a _ (sb _ _ e))
      exact ⟨⟨o, h1, hc⟩, fun b q => by cases q; exact ⟨o, h1, hd⟩⟩
    · have h1 := I.kIn a o e
      exact ⟨⟨o, h1, hc⟩, fun b q => by cases q; exact ⟨o, h1, hd⟩⟩
  · obtain ⟨a, vs, rfl, g, _⟩ := r
    exact tyV_is I ru (T := "list") (.inl ⟨rfl, vs, .of (sb _ _ g)⟩)
theorem few_of {args : List Expr} {pos : Pos} (hn : args.all notStar = true) (hl : args.length < 20) : ((backTo pos (starEach args X.env)).all (fun x => !x.1) && (backToKw pos (keywordEach [] X.env)).all (fun x => x.1.isSome)
      && decide (args.length + ([] : List Keyword).length + (if ([] : List Keyword).isEmpty then 0 else 1) < 30)) = true := by
  have h1 : ∀ es : List Expr, es.all notStar = true → (backTo pos (starEach es X.env)).all (fun x => !x.1) = true := by
    intro es
    induction es with
    | nil => intro _; rfl
    | cons e es ih =>
      intro h
      obtain ⟨h1, h2⟩ := Bool.and_eq_true_iff.mp (show (notStar e && es.all notStar) = true from h)
      rw [star_of h1]
      show (true && (backTo pos (starEach es X.env)).all (fun x => !x.1)) = true
      rw [ih h2]; rfl
  rw [h1 args hn]
  have : args.length + 0 + 0 < 30 := by omega
  show (true && true && decide (args.length + 0 + 0 < 30)) = true
  rw [decide_eq_true this]; rfl
theorem call_args {e : Expr} {es : List Expr} {pos : Pos} {f : String} {v : Value} {Q : Value → Shared → Prop} {E : Value → Shared → Prop} {A : Around} {s : Shared} (hn : (e :: es).all notStar = true)
    (h : wpAny (model X.prog X.w) A (spliced (backTo pos (starEach (e :: es) X.env))) (fun us s2 => wpAny (model X.prog X.w) A (PySem.call (.builtin f) (v :: us)) Q E s2) E s) : wpAny (model X.prog X.w) A (callWith pos (.builtin f) [v] (backTo pos (starEach (e :: es) X.env)) []) Q E s := by
  rw [star_of (Bool.and_eq_true_iff.mp hn).1] at h ⊢
  exact Calls.callWith_builtin (by show (false || (backTo pos (starEach es X.env)).any (·.1)) = false; rw [plain_of (Bool.and_eq_true_iff.mp hn).2]; rfl) (Calls.evalArgs_plain h)
/-- what an argument list of none is -/
def Nil0 (args : List Expr) (ms : M (List W)) : Prop := args = [] → ms = ret [] ∨ ms = bad
/-- o.m(..), o data of a built-in type -/
theorem meth_data (c : Cxt C k sc X Wx) {o : Expr} {m : Str} {ap pos : Pos} {args : List Expr} {mo : M W} {ms : M (List W)} {d0 : D} {T id : String} {g : D → List D → Option D} {F H : Hp} {ρ : List Addr} {h h0 : Hs} {σ : L2.St} {Q : VK}
    (h00 : Nil0 args ms) (hl : (ap.endLine == pos.line) = true) (hb : plainBase o = true) (hn : args.all notStar = true) (hlen : args.length < 20) (ho : SE X Wx env o mo) (hs : SA X Wx env args ms) (e0 : mo h = .ok (.d d0) h0)
    (pa : PlainAttrs T) (slot : Slot T m id) (ty : typeOf (.builtin id) = pure (.type "method_descriptor")) (rule : MtR X id (rDm X.K g)) (hT : recvT d0 = some T) (wd : Wd X.K F ρ h H) (er : EnvR X.K F ρ env σ)
    (p : Po (rW X.K) Wx X.K F ρ H σ (bnd ms (fun ws => (match datas ws with | some ys => ofD (g d0 ys) | none => bad)) h0) Q) : tSem X (.Call (.Attribute o m ap) args [] pos) σ H Q := by
  intro pins s I0
  refine wpAny_Call_method_late (base_of hb) (few_of hn hlen) hl rfl ?_
  refine thn (ho F ρ h σ H (fun v H1 => ∃ F1 ρ1, Ext F ρ H F1 ρ1 H1 ∧ Wd X.K F1 ρ1 h0 H1 ∧ Rep X.K F1 d0 v) wd er (by rw [e0]; exact fun F1 ρ1 H1 v x w r => ⟨F1, ρ1, x, w, r⟩) pins s I0) fun u s1 hx => ?_
  obtain ⟨v, H1, I1, ru, F1, ρ1, x1, wd1, r1⟩ := hx
  obtain ⟨t1, t2⟩ := recv_ok I1 wd1.sub r1 ru hT
  refine ⟨T, id, pa, slot, ty, t1, t2, ?_⟩
  have fin : ∀ (us : List Value) (vs : List V) (s2 : Shared) (H2 : Hp), Inv X pins σ H2 s2 → Vals vs us → (∃ F2 ρ2 h2 ws, Ext F1 ρ1 H1 F2 ρ2 H2 ∧ Wd X.K F2 ρ2 h2 H2 ∧ RepWs X.K F2 ρ2 ws vs ∧ Po (rW X.K) Wx X.K F2 ρ2 H2 σ ((match datas ws with | some ys => ofD (g d0 ys) | none => bad) h2) Q) →
      wpAny (model X.prog X.w) X.A (PySem.call (.builtin id) (u :: us)) (EP X pins σ Q) X.xe s2 := fun us vs s2 H2 I2 rv ⟨F2, ρ2, h2, ws, x2, wd2, rs, p2⟩ => by
    obtain ⟨ys, _, rl, p3⟩ := po_datas (γ := W) (f := fun ys => ofD (g d0 ys)) rs p2
    obtain ⟨d, e2, q⟩ := po_ofD p3
    exact rule pins s2 σ H2 v vs u us Q I2 ru rv ⟨F2, ρ2, h2, d0, ys, d, wd2, Rep.mono x2.sub r1, rl, e2, q⟩
  have p1 := p.ext x1
  cases args with
  | nil =>
    rcases h00 rfl with e | e
    · rw [e] at p1
      exact Calls.callWith_builtin rfl (PySem.evalArgs_none (fin [] [] s1 H1 I1 .nil ⟨F1, ρ1, h0, [], .refl _ _ _, wd1, rfl, p1⟩))
    · rw [e] at p1; exact p1.elim
  | cons a0 as0 =>
  refine call_args hn ?_
  refine thn (hs F1 ρ1 h0 σ H1 _ wd1 (er.mono x1.sub x1.pre) p1.bnd pos pins s1 I1) fun us s2 hy => ?_
  obtain ⟨vs, H2, I2, rv, hz⟩ := hy
  exact fin us vs s2 H2 I2 rv hz
theorem strM_in {m : Str} {s : Tx} {xs : List D} {d : D} (e : strM m s xs = some d) (h1 : m ≠ "replace") (h2 : m ≠ "index") : m = "split" ∨ m = "join" ∨ m = "strip" ∨ m = "rstrip" ∨ m = "rjust" := by
  unfold strM at e
  by_cases a1 : m = "split"
  · exact .inl a1
  rw [if_neg a1] at e
  by_cases a2 : m = "join"
  · exact .inr (.inl a2)
  rw [if_neg a2] at e
  by_cases a3 : m = "strip"
  · exact .inr (.inr (.inl a3))
  rw [if_neg a3] at e
  by_cases a4 : m = "rstrip"
  · exact .inr (.inr (.inr (.inl a4)))
  rw [if_neg a4] at e
  by_cases a5 : m = "rjust"
  · exact .inr (.inr (.inr (.inr a5)))
  rw [if_neg a5, if_neg h1, if_neg h2] at e
  cases e
/-- o.m(..), o an object of our classes, in the heap or frozen -/
theorem meth_own (c : Cxt C k sc X Wx) {o : Expr} {m cn : Str} {ap pos : Pos} {args : List Expr} {mo : M W} {ms : M (List W)} {w0 : W} {I : FnI} {F H : Hp} {ρ : List Addr} {h h0 : Hs} {σ : L2.St} {Q : VK}
    (h00 : Nil0 args ms) (hl : (ap.endLine == pos.line) = true) (hb : plainBase o = true) (hn : args.all notStar = true) (hlen : args.length < 20) (ho : SE X Wx env o mo) (hs : SA X Wx env args ms) (e0 : mo h = .ok w0 h0) (wd : Wd X.K F ρ h H) (er : EnvR X.K F ρ env σ)
    (hc : C.G.cls cn ≠ none) (hq : C.G.fn (cn ++ ("." : Str) ++ m) = some I)
    (obj : ∀ F1 ρ1 H1 v, Wd X.K F1 ρ1 h0 H1 → RepW X.K F1 ρ1 w0 v → ∃ a dx fs, v = .ref a ∧ H1 a = some (.ins (He.ga X.K cn) dx fs) ∧ fs.lookup m = none)
    (p : Po (rW X.K) Wx X.K F ρ H σ (bnd ms (fun ws => callF C.G C.cl (cn ++ ("." : Str) ++ m) (w0 :: ws)) h0) Q) : tSem X (.Call (.Attribute o m ap) args [] pos) σ H Q := by
  intro pins s I0
  obtain ⟨fz, hfz⟩ := Option.ne_none_iff_exists'.mp hc
  obtain ⟨g1, g2, g3, _⟩ := c.gl.cls cn fz hfz
  obtain ⟨g5, fd, G1, B1⟩ := c.gl.met cn m I hc hq
  have hr : Room (2 * k + 1) X.A := c.room.mono (by omega)
  rw [arm_eval_Call, base_of hb]
  refine wpAny_bind (wpAny_mono (ho F ρ h σ H (fun v H1 => ∃ F1 ρ1, Ext F ρ H F1 ρ1 H1 ∧ Wd X.K F1 ρ1 h0 H1 ∧ RepW X.K F1 ρ1 w0 v) wd er (by rw [e0]; exact fun F1 ρ1 H1 v x w r => ⟨F1, ρ1, x, w, r⟩) pins s I0) (fun u s1 hx => ?_) fun _ _ e => e)
  obtain ⟨v, H1, I1, ru, F1, ρ1, x1, wd1, r1⟩ := hx
  obtain ⟨a, dx, fs, rfl, ha, hno⟩ := obj F1 ρ1 H1 v wd1 r1
  obtain rfl : u = Value.ref a := ru
  refine wpAny_bind (wpAny_standAt ?_)
  have form : methodCallForm (args.length + ([] : List Keyword).length) (backTo pos (starEach args X.env)) (backToKw pos (keywordEach [] X.env)) = true := few_of hn hlen
  have place : methodCallPos true o X.env ap pos = pure pos := by unfold methodCallPos; simp [hl]
  unfold methodCall
  rw [form]
  refine wpAny_bind (wpAny_holding (getmeth_ok I1 ha g1 g5 hno ?_))
  refine wpAny_bind (wpAny_of_eq place ?_)
  have sp : ∀ vs H2, (∃ F2 ρ2 h2 ws, Ext F1 ρ1 H1 F2 ρ2 H2 ∧ Wd X.K F2 ρ2 h2 H2 ∧ RepWs X.K F2 ρ2 ws vs ∧ Po (rW X.K) Wx X.K F2 ρ2 H2 σ (callF C.G C.cl (cn ++ ("." : Str) ++ m) (w0 :: ws) h2) Q) →
      spR X.K C.cl (cn ++ ("." : Str) ++ m) I.ps.length (.ref a :: vs) H2 Q (WE Wx σ) := fun vs H2 ⟨F2, ρ2, h2, ws, x2, wd2, rs, p2⟩ =>
    callF_sp c hq wd2 (show RepWs X.K F2 ρ2 (w0 :: ws) (.ref a :: vs) from ⟨_, _, rfl, RepW.mono x2.sub x2.pre r1, rs⟩) p2
  have fin : ∀ (us : List Value) (vs : List V) (s2 : Shared) (H2 : Hp), Inv X pins σ H2 s2 → Vals vs us → (∃ F2 ρ2 h2 ws, Ext F1 ρ1 H1 F2 ρ2 H2 ∧ Wd X.K F2 ρ2 h2 H2 ∧ RepWs X.K F2 ρ2 ws vs ∧ Po (rW X.K) Wx X.K F2 ρ2 H2 σ (callF C.G C.cl (cn ++ ("." : Str) ++ m) (w0 :: ws) h2) Q) →
      wpAny (model X.prog X.w) X.A (PySem.call (.ref (He.ma X.K (He.ga X.K cn) m)) (.ref a :: us)) (EP X pins σ Q) X.xe s2 := fun us vs s2 H2 I2 rv hz =>
    run_fnSD (us := .ref a :: us) (vs := .ref a :: vs) (dvs := []) (ds := []) (E := WE Wx) G1 hr B1 .nil (passAt c.tk σ) I2 (.cons rfl rv) (by rw [List.append_nil]; exact sp vs H2 hz)
  have p1 := p.ext x1
  cases args with
  | nil =>
    rcases h00 rfl with e | e
    · rw [e] at p1
      exact PySem.W.callWith_K0 (first := [.ref a]) I1.kIn g5.kp (fin [] [] s1 H1 I1 .nil ⟨F1, ρ1, h0, [], .refl _ _ _, wd1, rfl, p1⟩)
    · rw [e] at p1; exact p1.elim
  | cons e es =>
    refine PySem.W.callWith_K (first := [.ref a]) (h₀ := X.base) I1.ok.mod.kin g5.kp (thn (hs F1 ρ1 h0 σ H1 _ wd1 (er.mono x1.sub x1.pre) p1.bnd pos pins s1 I1) fun us s2 hy => ?_) (star_of (Bool.and_eq_true_iff.mp hn).1) (plain_of (Bool.and_eq_true_iff.mp hn).2)
    obtain ⟨vs, H2, I2, rv, hz⟩ := hy
    exact ⟨I2.kIn, fin us vs s2 H2 I2 rv hz⟩
/-- o.m(..), o a list or dict that may change -/
theorem meth_obj (c : Cxt C k sc X Wx) {o : Expr} {m : Str} {ap pos : Pos} {args : List Expr} {mo : M W} {ms : M (List W)} {i : Nat} {T id : String} {r0 : V → List V → Hp → VK → Prop} {F H : Hp} {ρ : List Addr} {h h0 : Hs} {σ : L2.St} {Q : VK}
    (h00 : Nil0 args ms) (hl : (ap.endLine == pos.line) = true) (hb : plainBase o = true) (hn : args.all notStar = true) (hlen : args.length < 20) (ho : SE X Wx env o mo) (hs : SA X Wx env args ms) (e0 : mo h = .ok (.r i) h0)
    (pa : PlainAttrs T) (slot : Slot T m id) (ty : typeOf (.builtin id) = pure (.type "method_descriptor")) (rule : MtM X id r0) (wd : Wd X.K F ρ h H) (er : EnvR X.K F ρ env σ)
    (hT : ∀ F1 ρ1 H1 a, Wd X.K F1 ρ1 h0 H1 → ρ1[i]? = some a → tyV X.K T (.ref a) H1)
    (hr : ∀ F2 ρ2 h2 H2 a ws vs, Wd X.K F2 ρ2 h2 H2 → ρ2[i]? = some a → RepWs X.K F2 ρ2 ws vs → Po (rW X.K) Wx X.K F2 ρ2 H2 σ (objM m i ws h2) Q → r0 (.ref a) vs H2 Q)
    (p : Po (rW X.K) Wx X.K F ρ H σ (bnd ms (fun ws => objM m i ws) h0) Q) : tSem X (.Call (.Attribute o m ap) args [] pos) σ H Q := by
  intro pins s I0
  refine wpAny_Call_method_late (base_of hb) (few_of hn hlen) hl rfl ?_
  refine thn (ho F ρ h σ H (fun v H1 => ∃ F1 ρ1, Ext F ρ H F1 ρ1 H1 ∧ Wd X.K F1 ρ1 h0 H1 ∧ RepW X.K F1 ρ1 (.r i) v) wd er (by rw [e0]; exact fun F1 ρ1 H1 v x w r => ⟨F1, ρ1, x, w, r⟩) pins s I0) fun u s1 hx => ?_
  obtain ⟨v, H1, I1, ru, F1, ρ1, x1, wd1, a, ea, rfl⟩ := hx
  obtain ⟨t1, t2⟩ := tyV_is I1 ru (hT F1 ρ1 H1 a wd1 ea)
  refine ⟨T, id, pa, slot, ty, t1, t2, ?_⟩
  have fin : ∀ (us : List Value) (vs : List V) (s2 : Shared) (H2 : Hp), Inv X pins σ H2 s2 → Vals vs us → (∃ F2 ρ2 h2 ws, Ext F1 ρ1 H1 F2 ρ2 H2 ∧ Wd X.K F2 ρ2 h2 H2 ∧ RepWs X.K F2 ρ2 ws vs ∧ Po (rW X.K) Wx X.K F2 ρ2 H2 σ (objM m i ws h2) Q) →
      wpAny (model X.prog X.w) X.A (PySem.call (.builtin id) (u :: us)) (EP X pins σ Q) X.xe s2 := fun us vs s2 H2 I2 rv ⟨F2, ρ2, h2, ws, x2, wd2, rs, p2⟩ =>
    rule pins s2 σ H2 (.ref a) vs u us Q I2 ru rv (hr F2 ρ2 h2 H2 a ws vs wd2 (pre_get x2.pre ea) rs p2)
  have p1 := p.ext x1
  cases args with
  | nil =>
    rcases h00 rfl with e | e
    · rw [e] at p1
      exact Calls.callWith_builtin rfl (PySem.evalArgs_none (fin [] [] s1 H1 I1 .nil ⟨F1, ρ1, h0, [], .refl _ _ _, wd1, rfl, p1⟩))
    · rw [e] at p1; exact p1.elim
  | cons a0 as0 =>
  refine call_args hn ?_
  refine thn (hs F1 ρ1 h0 σ H1 _ wd1 (er.mono x1.sub x1.pre) p1.bnd pos pins s1 I1) fun us s2 hy => ?_
  obtain ⟨vs, H2, I2, rv, hz⟩ := hy
  exact fin us vs s2 H2 I2 rv hz
theorem getLast_ok {K : PySem.W.Frag} {F : Hp} {ρ : List Addr} {ws : List W} {vs : List V} {w : W} (e : ws.getLast? = some w) (r : RepWs K F ρ ws vs) : ∃ v, vs[vs.length - 1]? = some v ∧ RepW K F ρ w v := by
  rw [List.getLast?_eq_getElem?] at e
  obtain ⟨v, h1, h2⟩ := r.get e
  rw [r.length] at h1
  exact ⟨v, h1, h2⟩
theorem app_rd {F2 : Hp} {ρ2 : List Addr} {h2 : Hs} {H2 : Hp} {i : Nat} {a : Addr} {ws : List W} {vs : List V} {σ : L2.St} {Q : VK} (wd2 : Wd X.K F2 ρ2 h2 H2) (ea : ρ2[i]? = some a) (rs : RepWs X.K F2 ρ2 ws vs) (p2 : Po (rW X.K) Wx X.K F2 ρ2 H2 σ (objM "append" i ws h2) Q) : rAppend (.ref a) vs H2 Q := by
  simp only [objM] at p2
  cases eh : h2[i]? with
  | none => rw [eh] at p2; exact p2.elim
  | some ob =>
    rw [eh] at p2
    obtain ⟨a', o, e1, e2, ro⟩ := wd2.obs i _ eh
    rw [ea] at e1; cases e1
    cases ob with
    | lst us =>
      simp only [if_true] at p2
      obtain ⟨zs, rfl, rz⟩ := ro
      cases ws with
      | nil => exact p2.elim
      | cons x r =>
        cases r with
        | cons _ _ => exact p2.elim
        | nil =>
          simp only at p2
          obtain ⟨v, vr, rfl, rx, rn⟩ := rs
          cases rn
          cases hl : lenOk us.length with
          | false => rw [hl] at p2; exact p2.elim
          | true =>
            rw [hl] at p2
            refine ⟨a, zs, v, rfl, rfl, e2, ?_, ?_⟩
            · rw [← rz.length]
              have := lenOk_le hl
              rw [sizeLine_eq]; omega
            · exact p2 F2 ρ2 _ .non (.set ea _) (wd2.set ea ⟨_, rfl, rz.append ⟨v, [], rfl, rx, rfl⟩⟩) rfl
    | dic ks us =>
      simp only [show ¬ (("append" : Str) = "get") by decide, if_false] at p2
      exact p2.elim
    | ins _ _ _ => exact p2.elim
theorem pop_rd {F2 : Hp} {ρ2 : List Addr} {h2 : Hs} {H2 : Hp} {i : Nat} {a : Addr} {ws : List W} {vs : List V} {σ : L2.St} {Q : VK} (wd2 : Wd X.K F2 ρ2 h2 H2) (ea : ρ2[i]? = some a) (rs : RepWs X.K F2 ρ2 ws vs) (p2 : Po (rW X.K) Wx X.K F2 ρ2 H2 σ (objM "pop" i ws h2) Q) : rPop (.ref a) vs H2 Q := by
  simp only [objM] at p2
  cases eh : h2[i]? with
  | none => rw [eh] at p2; exact p2.elim
  | some ob =>
    rw [eh] at p2
    obtain ⟨a', o, e1, e2, ro⟩ := wd2.obs i _ eh
    rw [ea] at e1; cases e1
    cases ob with
    | lst us =>
      simp only [show ¬ (("pop" : Str) = "append") by decide, if_true, if_false] at p2
      obtain ⟨zs, rfl, rz⟩ := ro
      cases ws with
      | cons x r => exact p2.elim
      | nil =>
        simp only at p2
        cases rs
        cases hl : us.getLast? with
        | none => rw [hl] at p2; exact p2.elim
        | some w =>
          rw [hl] at p2
          obtain ⟨v, h1, h2'⟩ := getLast_ok hl rz
          exact ⟨a, zs, v, rfl, rfl, e2, h1, p2 F2 ρ2 _ v (.set ea _) (wd2.set ea ⟨_, rfl, rz.dropLast⟩) h2'⟩
    | dic ks us =>
      simp only [show ¬ (("pop" : Str) = "get") by decide, if_false] at p2
      exact p2.elim
    | ins _ _ _ => exact p2.elim
theorem objM_in {m : Str} {i : Nat} {ws : List W} {h : Hs} (hne : objM m i ws h ≠ .no) (hd : ∀ ks us, h[i]? ≠ some (.dic ks us)) : m = "append" ∨ m = "pop" := by
  unfold objM at hne
  by_cases a1 : m = "append"
  · exact .inl a1
  by_cases a2 : m = "pop"
  · exact .inr a2
  exfalso
  apply hne
  cases e : h[i]? with
  | none => rfl
  | some ob =>
    cases ob with
    | lst us => simp only; rw [if_neg a1, if_neg a2]
    | dic ks us => exact absurd e (hd ks us)
    | ins _ _ _ => rfl
/-! ### which method -/
theorem po_noEx {α γ δ : Type} {rel2 : Hp → List Addr → γ → δ → Prop} {m : M α} {f : α → M γ} {h : Hs} {F H : Hp} {ρ : List Addr} {σ : L2.St} {Q : δ → Hp → Prop} (p : Po rel2 Wx X.K F ρ H σ (bnd (noEx m) f h) Q) : ∃ a h1, m h = .ok a h1 ∧ Po rel2 Wx X.K F ρ H σ (f a h1) Q := by
  unfold KR.bnd noEx at p
  cases e : m h with
  | ok a h1 => rw [e] at p; exact ⟨a, h1, rfl, p⟩
  | ex c h1 => rw [e] at p; exact p.elim
  | no => rw [e] at p; exact p.elim
theorem nolook {f : Str} {α : Type} : ∀ {ns : List Str} {ws : List W} {vs : List α}, fldAt f ns ws = none → ns.length = ws.length → (ns.zip vs).lookup f = none
  | [], _, _, _, _ => rfl
  | n :: ns, [], _, _, h => by cases h
  | n :: ns, w :: ws, [], _, _ => rfl
  | n :: ns, w :: ws, v :: vs, e, h => by
    unfold fldAt at e
    by_cases c : n = f
    · rw [decide_eq_true c] at e; cases e
    · rw [decide_eq_false c] at e
      rw [List.zip_cons_cons, List.lookup_cons, show (f == n) = false from beq_eq_false_iff_ne.mpr fun z => c z.symm]
      exact nolook (by simpa using e) (by simpa using h)
theorem nolookD {f : Str} {α : Type} : ∀ {ns : List Str} {ws : List D} {vs : List α}, fldAtD f ns ws = none → ns.length = ws.length → (ns.zip vs).lookup f = none
  | [], _, _, _, _ => rfl
  | n :: ns, [], _, _, h => by cases h
  | n :: ns, w :: ws, [], _, _ => rfl
  | n :: ns, w :: ws, v :: vs, e, h => by
    unfold fldAtD at e
    by_cases c : n = f
    · rw [decide_eq_true c] at e; cases e
    · rw [decide_eq_false c] at e
      rw [List.zip_cons_cons, List.lookup_cons, show (f == n) = false from beq_eq_false_iff_ne.mpr fun z => c z.symm]
      exact nolookD (by simpa using e) (by simpa using h)
theorem not_po_none {o : Option D} {h : Hs} {F H : Hp} {ρ : List Addr} {σ : L2.St} {Q : VK} (e : o = none) (p : Po (rW X.K) Wx X.K F ρ H σ (ofD o h) Q) : False := by subst e; exact p
theorem dummy_no {ms : M (List W)} {f : List W → M W} {h : Hs} {F H : Hp} {ρ : List Addr} {σ : L2.St} {Q : VK} (hf : ∀ ws h, f ws h = .no) (p : Po (rW X.K) Wx X.K F ρ H σ (bnd ms f h) Q) : (∃ c h1, ms h = .ex c h1) := by
  unfold KR.bnd at p
  cases e : ms h with
  | ok a h1 => rw [e] at p; simp only at p; rw [hf] at p; exact p.elim
  | ex c h1 => exact ⟨c, h1, rfl⟩
  | no => rw [e] at p; exact p.elim
theorem se_meth (c : Cxt C k sc X Wx) {o : Expr} {m : Str} {ap pos : Pos} {args : List Expr} {mo : M W} {ms : M (List W)}
    (h00 : Nil0 args ms) (hl : (ap.endLine == pos.line) = true) (hb : plainBase o = true) (hn : args.all notStar = true) (hlen : args.length < 20) (ho : SE X Wx env o mo) (hs : SA X Wx env args ms) :
    SE X Wx env (.Call (.Attribute o m ap) args [] pos) (bnd (noEx mo) fun w => bnd (kindM C.G w m) fun kd => bnd ms fun ws => methC C.G C.cl kd w m ws) := by
  intro F ρ h σ H Q wd er p
  obtain ⟨w, h0, e0, p0⟩ := po_noEx p
  have hu : X.A.units + 130 < cLine := by have := c.room.un; omega
  cases w with
  | d d =>
    have main : dataOk m d = true → Po (rW X.K) Wx X.K F ρ H σ (bnd ms (fun ws => (match datas ws with | some ys => ofD (dataM m d ys) | none => bad)) h0) Q → tSem X (.Call (.Attribute o m ap) args [] pos) σ H Q := fun ok p1 => by
      cases d with
      | str t =>
        simp only [dataOk, Bool.or_eq_true, decide_eq_true_eq] at ok
        rcases ok with rfl | rfl | rfl | rfl | rfl
        · exact meth_data c h00 hl hb hn hlen ho hs e0 PySem.F.plainAttrs_str PySem.F.slot_str_split PySem.F.type_str_split mD_split rfl wd er p1
        · exact meth_data c h00 hl hb hn hlen ho hs e0 PySem.F.plainAttrs_str PySem.F.slot_str_join PySem.F.type_str_join mD_join rfl wd er p1
        · exact meth_data c h00 hl hb hn hlen ho hs e0 PySem.F.plainAttrs_str PySem.F.slot_str_strip PySem.F.type_str_strip mD_strip rfl wd er p1
        · exact meth_data c h00 hl hb hn hlen ho hs e0 PySem.F.plainAttrs_str PySem.F.slot_str_rstrip PySem.F.type_str_rstrip mD_rstrip rfl wd er p1
        · exact meth_data c h00 hl hb hn hlen ho hs e0 PySem.F.plainAttrs_str PySem.F.slot_str_rjust PySem.F.type_str_rjust mD_rjust rfl wd er p1
      | tup l =>
        simp only [dataOk, decide_eq_true_eq] at ok
        subst ok
        exact meth_data c h00 hl hb hn hlen ho hs e0 PySem.F.plainAttrs_tuple PySem.F.slot_tuple_count PySem.F.type_tuple_count (mD_countT hu) rfl wd er p1
      | lst l =>
        simp only [dataOk, decide_eq_true_eq] at ok
        subst ok
        exact meth_data c h00 hl hb hn hlen ho hs e0 PySem.F.plainAttrs_list PySem.F.slot_list_count PySem.F.type_list_count (mD_countL hu) rfl wd er p1
      | _ => cases ok
    cases d with
    | ins cn ns ys =>
      have p0 : Po (rW X.K) Wx X.K F ρ H σ (bnd (match C.G.cls cn, C.G.fn (cn ++ ("." : Str) ++ m), fldAtD m ns ys with
        | some _, some _, none => ret (.own cn)
        | _, _, _ => bad) (fun kd => bnd ms fun ws => methC C.G C.cl kd (.d (.ins cn ns ys)) m ws) h0) Q := p0
      cases e1 : C.G.cls cn with
      | none => rw [e1] at p0; exact p0.elim
      | some fz =>
        cases e2 : C.G.fn (cn ++ ("." : Str) ++ m) with
        | none => rw [e1, e2] at p0; exact p0.elim
        | some I =>
          cases e3 : fldAtD m ns ys with
          | some _ => rw [e1, e2, e3] at p0; exact p0.elim
          | none =>
            rw [e1, e2, e3] at p0
            refine meth_own c h00 hl hb hn hlen ho hs e0 wd er (by rw [e1]; simp) e2 (fun F1 ρ1 H1 v wd1 r1 => ?_) p0
            obtain ⟨a, dx, vs, rfl, g, rl, hl2⟩ := r1
            exact ⟨a, dx, _, rfl, wd1.sub _ _ g, nolookD e3 hl2⟩
    | str t =>
      cases e1 : dataOk m (.str t) with
      | false => have p0 : Po (rW X.K) Wx X.K F ρ H σ (bnd (match dataOk m (.str t) with | true => ret (Kd.data (.str t)) | false => bad) (fun kd => bnd ms fun ws => methC C.G C.cl kd (.d (.str t)) m ws) h0) Q := p0
                 rw [e1] at p0; exact p0.elim
      | true => have p0 : Po (rW X.K) Wx X.K F ρ H σ (bnd (match dataOk m (.str t) with | true => ret (Kd.data (.str t)) | false => bad) (fun kd => bnd ms fun ws => methC C.G C.cl kd (.d (.str t)) m ws) h0) Q := p0
                rw [e1] at p0; exact main e1 p0
    | tup t =>
      cases e1 : dataOk m (.tup t) with
      | false => have p0 : Po (rW X.K) Wx X.K F ρ H σ (bnd (match dataOk m (.tup t) with | true => ret (Kd.data (.tup t)) | false => bad) (fun kd => bnd ms fun ws => methC C.G C.cl kd (.d (.tup t)) m ws) h0) Q := p0
                 rw [e1] at p0; exact p0.elim
      | true => have p0 : Po (rW X.K) Wx X.K F ρ H σ (bnd (match dataOk m (.tup t) with | true => ret (Kd.data (.tup t)) | false => bad) (fun kd => bnd ms fun ws => methC C.G C.cl kd (.d (.tup t)) m ws) h0) Q := p0
                rw [e1] at p0; exact main e1 p0
    | lst t =>
      cases e1 : dataOk m (.lst t) with
      | false => have p0 : Po (rW X.K) Wx X.K F ρ H σ (bnd (match dataOk m (.lst t) with | true => ret (Kd.data (.lst t)) | false => bad) (fun kd => bnd ms fun ws => methC C.G C.cl kd (.d (.lst t)) m ws) h0) Q := p0
                 rw [e1] at p0; exact p0.elim
      | true => have p0 : Po (rW X.K) Wx X.K F ρ H σ (bnd (match dataOk m (.lst t) with | true => ret (Kd.data (.lst t)) | false => bad) (fun kd => bnd ms fun ws => methC C.G C.cl kd (.d (.lst t)) m ws) h0) Q := p0
                rw [e1] at p0; exact main e1 p0
    | _ => exact p0.elim
  | r i =>
    have p0 : Po (rW X.K) Wx X.K F ρ H σ (bnd (kindM C.G (.r i) m) (fun kd => bnd ms fun ws => methC C.G C.cl kd (.r i) m ws) h0) Q := p0
    unfold KR.bnd at p0
    simp only [kindM] at p0
    cases eh : h0[i]? with
    | none => rw [eh] at p0; exact p0.elim
    | some ob =>
      rw [eh] at p0
      cases ob with
      | dic _ _ => exact p0.elim
      | ins cn ns ys =>
        simp only at p0
        cases e1 : C.G.cls cn with
        | none => rw [e1] at p0; exact p0.elim
        | some fz =>
          cases e2 : C.G.fn (cn ++ ("." : Str) ++ m) with
          | none => rw [e1, e2] at p0; exact p0.elim
          | some I =>
            cases e3 : fldAt m ns ys with
            | some _ => rw [e1, e2, e3] at p0; exact p0.elim
            | none =>
              rw [e1, e2, e3] at p0
              refine meth_own c h00 hl hb hn hlen ho hs e0 wd er (by rw [e1]; simp) e2 (fun F1 ρ1 H1 v wd1 r1 => ?_) p0
              obtain ⟨a, ea, rfl⟩ := r1
              obtain ⟨a', o', f1, f2, dx, vs, rfl, rl, hl2⟩ := wd1.obs i _ eh
              rw [ea] at f1; cases f1
              exact ⟨a, dx, _, rfl, f2, nolook e3 hl2⟩
      | lst us =>
        simp only at p0
        have tl : ∀ F1 ρ1 H1 a, Wd X.K F1 ρ1 h0 H1 → ρ1[i]? = some a → tyV X.K "list" (.ref a) H1 := fun F1 ρ1 H1 a wd1 ea => by
          obtain ⟨a', o', f1, f2, vs, rfl, rl⟩ := wd1.obs i _ eh
          rw [ea] at f1; cases f1
          exact .inl ⟨rfl, vs, .of f2⟩
        by_cases hm : m = "append" ∨ m = "pop"
        · rw [if_pos hm] at p0
          rcases hm with rfl | rfl
          · exact meth_obj c h00 hl hb hn hlen ho hs e0 PySem.F.plainAttrs_list PySem.F.slot_list_append PySem.F.type_list_append mt_append wd er tl (fun F2 ρ2 h2 H2 a ws vs wd2 ea rs p2 => app_rd wd2 ea rs p2) p0
          · exact meth_obj c h00 hl hb hn hlen ho hs e0 PySem.F.plainAttrs_list PySem.F.slot_list_pop PySem.F.type_list_pop mt_pop wd er tl (fun F2 ρ2 h2 H2 a ws vs wd2 ea rs p2 => pop_rd wd2 ea rs p2) p0
        · rw [if_neg hm] at p0; exact p0.elim
end
end KR
/-! KR: what is walked; targets; comprehensions. -/
namespace KR
open PySem PySem.Spec PyProof.Rows L2

def tSemI (X : Cx) (tg e : Expr) : TI := fun σ H R => ∀ pins s, Inv X pins σ H s → wpAny (model X.prog X.w) X.A (eval e X.env) (fun v s1 => wpAny (model X.prog X.w) X.A (pyIter v) (PIE X pins σ tg R) X.xe s1) X.xe s
theorem pi_sem {X : Cx} {tg e : Expr} : PI X tg e (tSemI X tg e) := ⟨fun pins s _ _ _ I h => h pins s I⟩
theorem semI_of {X : Cx} {tg e : Expr} {t : TI} {σ : L2.St} {H : Hp} {R : It → Hp → Prop} (h : PI X tg e t) (q : t σ H R) : tSemI X tg e σ H R := fun pins s I => h.run pins s σ H R I q
def tSemG (X : Cx) (tg : Expr) : TG := fun v σ H Q => ∀ pins s u, Inv X pins σ H s → RelV v u → wpAny (model X.prog X.w) X.A (assign tg X.env u) (fun _ s' => ∃ σ' H', Inv X pins σ' H' s' ∧ Q σ' H') X.xe s
theorem pg_sem {X : Cx} {tg : Expr} : PG X tg (tSemG X tg) := ⟨fun pins s _ _ _ u _ I r h => h pins s u I r⟩
theorem semG_of {X : Cx} {tg : Expr} {t : TG} {v : V} {σ : L2.St} {H : Hp} {Q : L2.St → Hp → Prop} (h : PG X tg t) (q : t v σ H Q) : tSemG X tg v σ H Q := fun pins s u I r => h.run pins s σ H v u Q I r q

/-- what a turn gives: the value that stands for y -/
inductive YR (K : PySem.W.Frag) (F H : Hp) : Y → V → Hp → Prop where
  | leaf {d : D} {v : V} (r : Rep K F d v) : YR K F H (.v (.d d)) v H
  | pair {a b : D} {T : Addr} {u v : V} (n : H T = none) (r1 : Rep K F a u) (r2 : Rep K F b v) : YR K F H (.p (.v (.d a)) (.v (.d b))) (.ref T) (upd H T (.tup [u, v]))
/-- a walk over ys while what is frozen stays -/
def WalkY (K : PySem.W.Frag) (F : Hp) (J : It) (ys : List Y) : Prop := Walk J ys.length (fun H => Sub F H) (fun i H x H' => ∃ y, ys[i]? = some y ∧ YR K F H y x H')
abbrev rY (K : PySem.W.Frag) : Hp → List Addr → List Y → It → Prop := fun F _ ys J => WalkY K F J ys
theorem WalkY.mono {K : PySem.W.Frag} {F F' : Hp} {J : It} {ys : List Y} (s : Sub F F') (w : WalkY K F J ys) : WalkY K F' J ys :=
  Walk.mono w (fun H h => s.trans h) fun i H x H' hi g ⟨y, e, r⟩ => ⟨y, e, by
    cases r with
    | leaf r => exact .leaf (r.mono s)
    | pair n r1 r2 => exact .pair n (r1.mono s) (r2.mono s)⟩
theorem leafs_get {xs : List D} {i : Nat} {d : D} (e : xs[i]? = some d) : (leafs xs)[i]? = some (.v (.d d)) := by
  unfold leafs
  rw [List.getElem?_map, e]; rfl
theorem leafs_len (xs : List D) : (leafs xs).length = xs.length := by unfold leafs; rw [List.length_map]
theorem RepL.getR {K : PySem.W.Frag} {F : Hp} {ds : List D} {vs : List V} {i : Nat} {v : V} (r : RepL K F ds vs) (e : vs[i]? = some v) : ∃ d, ds[i]? = some d ∧ Rep K F d v := by
  have hl := (List.getElem?_eq_some_iff.mp e).1
  rw [← r.length] at hl
  obtain ⟨u, h1, h2⟩ := r.get (List.getElem?_eq_getElem hl)
  rw [e] at h1; cases h1
  exact ⟨_, List.getElem?_eq_getElem hl, h2⟩
section
variable {K : PySem.W.Frag} {F : Hp} {a : Addr} {vs : List V} {xs : List D}
theorem wy_list (e : F a = some (.lst vs)) (r : RepL K F xs vs) : WalkY K F (Itl K a) (leafs xs) := by
  have hl : (leafs xs).length = vs.length := by rw [leafs_len, r.length]
  unfold WalkY
  rw [hl]
  refine (walk_list (K := K) (a := a) (xs := vs)).mono (fun H h => .of (h _ _ e)) fun i H x H' hi g y => ?_
  obtain ⟨rfl, h2⟩ := y
  obtain ⟨d, e1, rd⟩ := r.getR h2
  exact ⟨_, leafs_get e1, .leaf rd⟩
theorem wy_tup (g : GT K F a vs) (r : RepL K F xs vs) : WalkY K F (Itt K a) (leafs xs) := by
  have hl : (leafs xs).length = vs.length := by rw [leafs_len, r.length]
  unfold WalkY
  rw [hl]
  refine (walk_tup (K := K) (a := a) (xs := vs)).mono (fun H h => (GT.mono h g).t) fun i H x H' hi g y => ?_
  obtain ⟨rfl, h2⟩ := y
  obtain ⟨d, e1, rd⟩ := r.getR h2
  exact ⟨_, leafs_get e1, .leaf rd⟩
theorem wy_str {s : Tx} (ok : okT s = true) : WalkY K F (Its (St s)) (signs s) := by
  have hl : (signs s).length = (St s).cps.size := by simp [signs, St]
  unfold WalkY
  rw [hl]
  refine (walk_str (z := St s)).mono (fun _ _ => trivial) fun i H x H' hi g y => ?_
  obtain ⟨rfl, c, h2, rfl⟩ := y
  have h3 : s[i]? = some c := by simpa [St] using h2
  refine ⟨_, ?_, .leaf (d := .str [c]) ⟨rfl, okT_sub ok fun b hb => ?_⟩⟩
  · simp [signs, h3]
  · have : b = c := by simpa using hb
    rw [this]; exact List.mem_of_getElem? h3
theorem wy_rng {lo : Int} {n : Nat} : WalkY K F (Itr lo n) (rangeY lo n) := by
  have hl : (rangeY lo n).length = n := by simp [rangeY]
  unfold WalkY
  rw [hl]
  refine (walk_range (lo := lo) (n := n)).mono (fun _ _ => trivial) fun i H x H' hi g y => ?_
  obtain ⟨rfl, rfl⟩ := y
  exact ⟨.v (.d (.int (lo + i))), by simp [rangeY, hi], .leaf rfl⟩
theorem numY_get : ∀ {ys : List Y} {n i : Nat} {y : Y}, ys[i]? = some y → (numY n ys)[i]? = some (.p (.v (.d (.int ((n + i : Nat) : Int)))) y)
  | [], _, _, _, e => by simp at e
  | z :: ys, n, 0, y, e => by
    have : z = y := by simpa using e
    subst this
    simp [numY]
  | z :: ys, n, i + 1, y, e => by
    have := numY_get (n := n + 1) (ys := ys) (i := i) (y := y) (by simpa using e)
    rw [numY, List.getElem?_cons_succ, this]
    have : n + 1 + i = n + (i + 1) := by omega
    rw [this]
theorem numY_len : ∀ (ys : List Y) (n : Nat), (numY n ys).length = ys.length
  | [], _ => rfl
  | _ :: ys, n => by rw [numY, List.length_cons, numY_len ys, List.length_cons]
theorem wy_enum (e : F a = some (.lst vs)) (r : RepL K F xs vs) : WalkY K F (Ite K a) (numY 0 (leafs xs)) := by
  have hl : (numY 0 (leafs xs)).length = vs.length := by rw [numY_len, leafs_len, r.length]
  unfold WalkY
  rw [hl]
  refine (walk_enum (K := K) (a := a) (xs := vs)).mono (fun H h => .of (h _ _ e)) fun i H x H' hi g y => ?_
  obtain ⟨T, u, v, rfl, n, rfl, h1, h2⟩ := y
  cases h1
  obtain ⟨d, e1, rd⟩ := r.getR h2
  refine ⟨_, numY_get (leafs_get e1), ?_⟩
  rw [Nat.zero_add]
  exact .pair n rfl rd
theorem zipY_get : ∀ {as bs : List Y} {i : Nat} {a b : Y}, as[i]? = some a → bs[i]? = some b → (zipY as bs)[i]? = some (.p a b)
  | [], _, _, _, _, e, _ => by simp at e
  | _ :: _, [], _, _, _, _, e => by simp at e
  | z :: as, w :: bs, 0, a, b, e, f => by
    have e : z = a := by simpa using e
    have f : w = b := by simpa using f
    subst e f
    rfl
  | z :: as, w :: bs, i + 1, a, b, e, f => by
    rw [zipY, List.getElem?_cons_succ]
    exact zipY_get (by simpa using e) (by simpa using f)
theorem zipY_len : ∀ (as bs : List Y), (zipY as bs).length = min as.length bs.length
  | [], _ => by simp [zipY]
  | _ :: _, [] => by simp [zipY]
  | _ :: as, _ :: bs => by rw [zipY, List.length_cons, zipY_len as bs, List.length_cons, List.length_cons]; omega
theorem wy_zip {b : Addr} {us : List V} {ys : List D} (e : F a = some (.lst vs)) (r : RepL K F xs vs) (e2 : F b = some (.lst us)) (r2 : RepL K F ys us) : WalkY K F (Itz K a b) (zipY (leafs xs) (leafs ys)) := by
  have hl : (zipY (leafs xs) (leafs ys)).length = min vs.length us.length := by rw [zipY_len, leafs_len, leafs_len, r.length, r2.length]
  unfold WalkY
  rw [hl]
  refine (walk_zip (K := K) (a := a) (b := b) (xs := vs) (ys := us) rfl).mono (fun H h => ⟨.of (h _ _ e), .of (h _ _ e2)⟩) fun i H x H' hi g y => ?_
  obtain ⟨T, u, v, rfl, n, rfl, h1, h2⟩ := y
  obtain ⟨d, e1, rd⟩ := r.getR h1
  obtain ⟨d2, e3, rd2⟩ := r2.getR h2
  exact ⟨_, zipY_get (leafs_get e1) (leafs_get e3), .pair n rd rd2⟩
end
section
variable {C : Cfg} {k : Nat} {sc : Scope} {X : Cx} {Wx : WX} {env : Env}
def SI (X : Cx) (Wx : WX) (env : Env) (tg e : Expr) (m : M (List Y)) : Prop := ∀ F ρ h σ H Q, Wd X.K F ρ h H → EnvR X.K F ρ env σ → Po (rY X.K) Wx X.K F ρ H σ (m h) Q → tSemI X tg e σ H Q
theorem semI_ex {tg e : Expr} {σ : L2.St} {H : Hp} {R : It → Hp → Prop} (h : tSem X e σ H fun _ _ => False) : tSemI X tg e σ H R := fun pins s I => wpAny_mono (h pins s I) (fun v s1 ⟨_, _, _, _, z⟩ => z.elim) fun _ _ z => z
theorem si_val (c : Cxt C k sc X Wx) {tg e : Expr} {m : M W} (he : SE X Wx env e m) : SI X Wx env tg e (bnd m itW) := by
  intro F ρ h σ H Q wd er p
  have p0 := p
  unfold KR.bnd at p
  cases e0 : m h with
  | no => rw [e0] at p; exact p.elim
  | ex cn h1 =>
    rw [e0] at p
    exact semI_ex (he F ρ h σ H _ wd er (by rw [e0]; exact p))
  | ok w h1 =>
    rw [e0] at p
    have p : Po (rY X.K) Wx X.K F ρ H σ (itW w h1) Q := p
    have run : ∀ (Q' : V → Hp → Prop), (∀ F1 ρ1 H1 v, Ext F ρ H F1 ρ1 H1 → Wd X.K F1 ρ1 h1 H1 → RepW X.K F1 ρ1 w v → Q' v H1) → tSem X e σ H Q' := fun Q' q => he F ρ h σ H Q' wd er (by rw [e0]; exact q)
    cases w with
    | r i => exact p.elim
    | d d =>
      cases d with
      | lst xs =>
        refine semI_of (pi_list pe_sem) (run _ fun F1 ρ1 H1 v x wd1 r => ?_)
        obtain ⟨a, vs, rfl, g, rl⟩ := r
        exact ⟨a, rfl, ⟨vs, .of (wd1.sub _ _ g)⟩, p F1 ρ1 H1 _ x wd1 (wy_list g rl)⟩
      | tup xs =>
        refine semI_of (pi_tup pe_sem) (run _ fun F1 ρ1 H1 v x wd1 r => ?_)
        obtain ⟨a, vs, rfl, g, rl⟩ := r
        exact ⟨a, rfl, ⟨vs, (GT.mono wd1.sub g).t⟩, p F1 ρ1 H1 _ x wd1 (wy_tup g rl)⟩
      | str t =>
        refine semI_of (pi_str pe_sem) (run _ fun F1 ρ1 H1 v x wd1 r => ?_)
        obtain ⟨rfl, ok⟩ := r
        exact ⟨_, rfl, p F1 ρ1 H1 _ x wd1 (wy_str ok)⟩
      | _ => exact p.elim
theorem si_rng1 (c : Cxt C k sc X Wx) {tg a : Expr} {p0 pos : Pos} {m : M W} (hg : glo sc "range" = true) (hn : notStar a = true) (ha : SE X Wx env a m) :
    SI X Wx env tg (.Call (.Name "range" p0) [a] [] pos) (bnd m fun w => (match w with | .d (.int j) => (match decide (j < 1000000) && decide (-1000000 < j) with | true => ret (rangeY 0 j.toNat) | false => bad) | _ => bad)) := by
  intro F ρ h σ H Q wd er p
  refine semI_of (pi_range1 (c.glo hg) (c.gl.blt _ (by decide)) (pa_cons pe_sem pa_nil (star_of hn)) (star_of hn)) ?_
  refine ha F ρ h σ H _ wd er (p.bnd.mono fun x H1 ⟨F1, ρ1, h1, w, x1, wd1, ra, p1⟩ => ?_)
  cases w with
  | r i => exact p1.elim
  | d d =>
    cases d with
    | int j =>
      cases ra
      have p1 : Po (rY X.K) Wx X.K F1 ρ1 H1 σ ((match decide (j < 1000000) && decide (-1000000 < j) with | true => ret (rangeY 0 j.toNat) | false => bad) h1) Q := p1
      cases hb : decide (j < 1000000) && decide (-1000000 < j) with
      | false => rw [hb] at p1; exact p1.elim
      | true =>
        rw [hb] at p1
        simp only [Bool.and_eq_true, decide_eq_true_eq] at hb
        exact ⟨j, rfl, by omega, by omega, p1 F1 ρ1 H1 _ (.refl _ _ _) wd1 wy_rng⟩
    | _ => exact p1.elim
theorem si_rng2 (c : Cxt C k sc X Wx) {tg a b : Expr} {p0 pos : Pos} {m m2 : M W} (hg : glo sc "range" = true) (hn : notStar a = true) (hn2 : notStar b = true) (ha : SE X Wx env a m) (hb : SE X Wx env b m2) :
    SI X Wx env tg (.Call (.Name "range" p0) [a, b] [] pos) (bnd m fun w => bnd m2 fun v => (match w, v with | .d (.int i), .d (.int j) => (match decide (j < 1000000) && (decide (-1000000 < j) && (decide (i < 1000000) && decide (-1000000 < i))) with | true => ret (rangeY i (j - i).toNat) | false => bad) | _, _ => bad)) := by
  intro F ρ h σ H Q wd er p
  have s2 : starEach [b] X.env = [(false, eval b X.env)] := star_of hn2
  refine semI_of (pi_range2 (c.glo hg) (c.gl.blt _ (by decide)) (pa_cons pe_sem (pa_cons pe_sem pa_nil s2) (star_of hn)) (by rw [star_of hn, s2]) s2) ?_
  refine ha F ρ h σ H _ wd er (p.bnd.mono fun x H1 ⟨F1, ρ1, h1, w, x1, wd1, ra, p1⟩ => ?_)
  refine hb F1 ρ1 h1 σ H1 _ wd1 (er.mono x1.sub x1.pre) (p1.bnd.mono fun y H2 ⟨F2, ρ2, h2, z, x2, wd2, rb, p2⟩ => ?_)
  have ra2 := RepW.mono x2.sub x2.pre ra
  cases w with
  | r i => exact p2.elim
  | d d =>
    cases z with
    | r i => cases d <;> exact p2.elim
    | d d2 =>
      cases d with
      | int i =>
        cases d2 with
        | int j =>
          cases ra2; cases rb
          have p2 : Po (rY X.K) Wx X.K F2 ρ2 H2 σ ((match decide (j < 1000000) && (decide (-1000000 < j) && (decide (i < 1000000) && decide (-1000000 < i))) with | true => ret (rangeY i (j - i).toNat) | false => bad) h2) Q := p2
          cases hb : decide (j < 1000000) && (decide (-1000000 < j) && (decide (i < 1000000) && decide (-1000000 < i))) with
          | false => rw [hb] at p2; exact p2.elim
          | true =>
            rw [hb] at p2
            simp only [Bool.and_eq_true, decide_eq_true_eq] at hb
            exact ⟨i, j, rfl, ⟨by omega, by omega, by omega, by omega⟩, p2 F2 ρ2 H2 _ (.refl _ _ _) wd2 wy_rng⟩
        | _ => exact p2.elim
      | _ => cases d2 <;> exact p2.elim
theorem si_enum (c : Cxt C k sc X Wx) {a : Expr} {elts : List Expr} {kk : Nat} {tpos p0 pos : Pos} {m : M W} (hg : glo sc "enumerate" = true) (hn : notStar a = true) (ha : SE X Wx env a m) :
    SI X Wx env (.Tuple elts kk tpos) (.Call (.Name "enumerate" p0) [a] [] pos) (bnd m fun w => (match w with | .d (.lst xs) => ret (numY 0 (leafs xs)) | _ => bad)) := by
  intro F ρ h σ H Q wd er p
  refine semI_of (pi_enum (c.glo hg) (c.gl.blt _ (by decide)) (pa_cons pe_sem pa_nil (star_of hn)) (star_of hn)) ?_
  refine ha F ρ h σ H _ wd er (p.bnd.mono fun x H1 ⟨F1, ρ1, h1, w, x1, wd1, ra, p1⟩ => ?_)
  cases w with
  | r i => exact p1.elim
  | d d =>
    cases d with
    | lst xs =>
      obtain ⟨b, vs, rfl, g, rl⟩ := ra
      exact ⟨b, vs, rfl, .of (wd1.sub _ _ g), p1 F1 ρ1 H1 _ (.refl _ _ _) wd1 (wy_enum g rl)⟩
    | _ => exact p1.elim
theorem si_zip (c : Cxt C k sc X Wx) {a b : Expr} {elts : List Expr} {kk : Nat} {tpos p0 pos : Pos} {m m2 : M W} (hg : glo sc "zip" = true) (hn : notStar a = true) (hn2 : notStar b = true) (ha : SE X Wx env a m) (hb : SE X Wx env b m2) :
    SI X Wx env (.Tuple elts kk tpos) (.Call (.Name "zip" p0) [a, b] [] pos) (bnd m fun w => bnd m2 fun v => (match w, v with | .d (.lst xs), .d (.lst ys) => ret (zipY (leafs xs) (leafs ys)) | _, _ => bad)) := by
  intro F ρ h σ H Q wd er p
  have s2 : starEach [b] X.env = [(false, eval b X.env)] := star_of hn2
  refine semI_of (pi_zip (c.glo hg) (c.gl.blt _ (by decide)) (pa_cons pe_sem (pa_cons pe_sem pa_nil s2) (star_of hn)) (star_of hn) (by rw [s2]; rfl)) ?_
  refine ha F ρ h σ H _ wd er (p.bnd.mono fun x H1 ⟨F1, ρ1, h1, w, x1, wd1, ra, p1⟩ => ?_)
  refine hb F1 ρ1 h1 σ H1 _ wd1 (er.mono x1.sub x1.pre) (p1.bnd.mono fun y H2 ⟨F2, ρ2, h2, z, x2, wd2, rb, p2⟩ => ?_)
  have ra2 := RepW.mono x2.sub x2.pre ra
  cases w with
  | r i => exact p2.elim
  | d d =>
    cases z with
    | r i => cases d <;> exact p2.elim
    | d d2 =>
      cases d with
      | lst xs =>
        cases d2 with
        | lst ys =>
          obtain ⟨b1, vs, rfl, g, rl⟩ := ra2
          obtain ⟨b2, us, rfl, g2, rl2⟩ := rb
          exact ⟨b1, b2, vs, us, rfl, .of (wd2.sub _ _ g), .of (wd2.sub _ _ g2), p2 F2 ρ2 H2 _ (.refl _ _ _) wd2 (wy_zip g rl g2 rl2)⟩
        | _ => exact p2.elim
      | _ => cases d2 <;> exact p2.elim
end
end KR
/-! KR: targets; comprehensions. -/
namespace KR
open PySem PySem.Spec PyProof.Rows L2

/-- names that may be stored -/
def StOk (X : Cx) (st : Str → Bool) : Prop := ∀ x, st x = true → Loc X.env.scope x ∧ (X.fn x = true ∨ X.env.scope.names.lookup x = some .local)
theorem bindY_form {N : List Str} {st : Str → Bool} : ∀ {n : Nat} {t : Expr} {y : Y} {env e1 : Env}, bindY N st n t y env = some e1 → (∃ x p, t = .Name x p) ∨ ∃ a b k p, t = .Tuple [a, b] k p
  | 0, _, _, _, _, e => by simp [bindY] at e
  | n + 1, t, y, env, e1, e => by
    unfold bindY at e
    split at e
    · exact .inl ⟨_, _, rfl⟩
    · exact .inr ⟨_, _, _, _, rfl⟩
    · cases e
/-- the slots that a target may turn -/
def Only (vs : List Nat) (σ σ' : L2.St) : Prop := L2.wipe σ' vs = L2.wipe σ vs
theorem wipe_set {σ : L2.St} {o : Option V} : ∀ {vs : List Nat} {i : Nat}, i ∈ vs → L2.wipe (σ.set i o) vs = L2.wipe σ vs := by
  have ne : ∀ {vs : List Nat} {i : Nat} , i ∉ vs → L2.wipe (σ.set i o) vs = (L2.wipe σ vs).set i o := by
    intro vs
    induction vs with
    | nil => intros; rfl
    | cons v vs ih =>
      intro i h
      simp only [List.mem_cons, not_or] at h
      show (L2.wipe (σ.set i o) vs).set v none = ((L2.wipe σ vs).set v none).set i o
      rw [ih h.2, List.set_comm _ _ h.1]
  intro vs
  induction vs with
  | nil => intro i h; cases h
  | cons v vs ih =>
    intro i h
    show (L2.wipe (σ.set i o) vs).set v none = (L2.wipe σ vs).set v none
    by_cases c : i ∈ vs
    · rw [ih c]
    · rw [ne c]
      have : i = v := by
        rcases List.mem_cons.mp h with h | h
        · exact h
        · exact absurd h c
      subst this
      rw [List.set_set]
section
variable {X : Cx} {N : List Str} {st : Str → Bool} {vs : List Nat}
theorem as2 {a b : Expr} {E : PySem.Env} (ha : (∃ x p, a = .Name x p) ∨ ∃ a1 b1 k p, a = .Tuple [a1, b1] k p) (hb : (∃ x p, b = .Name x p) ∨ ∃ a1 b1 k p, b = .Tuple [a1, b1] k p) :
    (assignEach [a, b] E).map (·.2) = [assign a E, assign b E] ∧ (assignEach [b] E).map (·.2) = [assign b E] ∧ (assignEach [a, b] E).length = 2 ∧ (assignEach [a, b] E).findIdx? (·.1) = none := by
  rcases ha with ⟨_, _, rfl⟩ | ⟨_, _, _, _, rfl⟩ <;> rcases hb with ⟨_, _, rfl⟩ | ⟨_, _, _, _, rfl⟩ <;> exact ⟨rfl, rfl, rfl, rfl⟩
/-- a value to a target -/
theorem sg_leaf (hc : X.calm = true) (hN : X.N = N) (hnd : N.Nodup) (hst : StOk X st) (hvs : ∀ x i, st x = true → ix x N = some i → i ∈ vs) {F H : Hp} {ρ : List Addr} (sb : Sub F H) : ∀ {n : Nat} {t : Expr} {d : D} {v : V} {env e1 : Env} {σ : L2.St} {Q : L2.St → Hp → Prop}, bindY N st n t (.v (.d d)) env = some e1 → Rep X.K F d v → EnvR X.K F ρ env σ →
    (∀ σ', EnvR X.K F ρ e1 σ' → Only vs σ σ' → Q σ' H) → tSemG X t v σ H Q
  | 0, _, _, _, _, _, _, _, e, _, _, _ => by simp [bindY] at e
  | n + 1, t, d, v, env, e1, σ, Q, e, r, er, q => by
    rcases bindY_form e with ⟨x, p, rfl⟩ | ⟨a, b, k, p, rfl⟩
    · simp only [bindY] at e
      cases e1' : st x with
      | false => rw [e1'] at e; cases e
      | true =>
        cases e2 : ix x N with
        | none => rw [e1', e2] at e; cases e
        | some i =>
          rw [e1', e2] at e
          have e : env.set i (some (.d d)) = e1 := by simpa using e
          subst e
          obtain ⟨h1, h2⟩ := hst x e1'
          refine semG_of (pg_name (by rw [hN]; exact hnd) (i := i) (by rw [hN]; exact ix_get e2) h1 h2) (q _ (er.set (w := .d d) r) ?_)
          exact wipe_set (hvs x i e1' e2)
    · cases d with
      | tup ds =>
        obtain ⟨u, w, rfl⟩ : ∃ u w, ds = [u, w] := by
          match ds, e with
          | [u, w], _ => exact ⟨u, w, rfl⟩
          | [], e => simp [bindY] at e
          | [_], e => simp [bindY] at e
          | _ :: _ :: _ :: _, e => simp [bindY] at e
        simp only [bindY] at e
        cases ea : bindY N st n a (.v (.d u)) env with
        | none => rw [ea] at e; cases e
        | some e2 =>
          rw [ea] at e
          simp only at e
          obtain ⟨s1, s2, s3, s4⟩ := as2 (E := X.env) (bindY_form ea) (bindY_form e)
          obtain ⟨c, vs', rfl, g, v1, r1, rfl, q1, v2, r2, rfl, q2, rfl⟩ := r
          refine semG_of (pg_tup hc (pgs_cons pg_sem (pgs_cons pg_sem pgs_nil s2) (by rw [s1, s2])) s3 s4) ⟨c, _, rfl, (GT.mono sb g).t, rfl, v1, _, rfl, ?_⟩
          refine sg_leaf hc hN hnd hst hvs sb ea q1 er fun σ' er' o1 => ⟨v2, _, rfl, ?_⟩
          exact sg_leaf hc hN hnd hst hvs sb e q2 er' fun σ2 er2 o2 => ⟨rfl, q σ2 er2 (o2.trans o1)⟩
      | _ => simp [bindY] at e
/-- a turn's value to the target -/
theorem sg_bind (hc : X.calm = true) (hN : X.N = N) (hnd : N.Nodup) (hst : StOk X st) (hvs : ∀ x i, st x = true → ix x N = some i → i ∈ vs) {F0 F H H' : Hp} {ρ : List Addr} {h : Hs} (s0 : Sub F0 F) (wd : Wd X.K F ρ h H) {n : Nat} {t : Expr} {y : Y} {v : V} {env e1 : Env} {σ : L2.St} {Q : L2.St → Hp → Prop}
    (e : bindY N st n t y env = some e1) (yr : YR X.K F0 H y v H') (er : EnvR X.K F ρ env σ) (q : ∀ F' σ', Ext F ρ H F' ρ H' → Wd X.K F' ρ h H' → EnvR X.K F' ρ e1 σ' → Only vs σ σ' → Q σ' H') : tSemG X t v σ H' Q := by
  cases yr with
  | leaf r => exact sg_leaf hc hN hnd hst hvs wd.sub e (r.mono s0) er fun σ' er' o => q F σ' (.refl _ _ _) wd er' o
  | @pair a b T u v n0 r1 r2 =>
    have x1 := Ext.new (F := F) (ρ := ρ) n0 wd.sub (.tup [u, v])
    have wd1 := wd.new n0 (.tup [u, v])
    have er1 := er.mono x1.sub x1.pre
    have ra := (r1.mono s0).mono x1.sub
    have rb := (r2.mono s0).mono x1.sub
    cases n with
    | zero => simp [bindY] at e
    | succ n =>
      rcases bindY_form e with ⟨x, p, rfl⟩ | ⟨c, d, k, p, rfl⟩
      · simp [bindY] at e
      · simp only [bindY] at e
        cases ea : bindY N st n c (.v (.d a)) env with
        | none => rw [ea] at e; cases e
        | some e2 =>
          rw [ea] at e
          simp only at e
          obtain ⟨s1, s2, s3, s4⟩ := as2 (E := X.env) (bindY_form ea) (bindY_form e)
          refine semG_of (pg_tup hc (pgs_cons pg_sem (pgs_cons pg_sem pgs_nil s2) (by rw [s1, s2])) s3 s4) ⟨T, _, rfl, .of (by rw [upd_same]), rfl, u, _, rfl, ?_⟩
          refine sg_leaf hc hN hnd hst hvs wd1.sub ea ra er1 fun σ' er' o1 => ⟨v, _, rfl, ?_⟩
          exact sg_leaf hc hN hnd hst hvs wd1.sub e rb er' fun σ2 er2 o2 => ⟨rfl, q _ σ2 x1 wd1 er2 (o2.trans o1)⟩
end
end KR
/-! KR: comprehensions. -/
namespace KR
open PySem PySem.Spec PyProof.Rows L2

def W0 : WX := fun _ _ _ _ => False
section
variable {C : Cfg} {k : Nat} {sc : Scope} {X : Cx} {Wx : WX} {env : Env}
theorem ownIx_ok {N : List Str} : ∀ {l : List (Str × NameKind)} {own : List (Str × Nat)}, ownIx N l = some own → ∀ x i, (∃ kk, (x, kk) ∈ l ∧ (kk = .local ∨ kk = .cell)) → ix x N = some i → i ∈ own.map (·.2)
  | [], own, e, x, i, ⟨kk, h, _⟩, _ => nomatch h
  | (y, ky) :: l, own, e, x, i, ⟨kk, h, hk⟩, hi => by
    unfold ownIx at e
    cases er : ownIx N l with
    | none => rw [er] at e; cases e
    | some o =>
      rw [er] at e
      simp only at e
      have up : own = o ∨ ∃ p, own = p :: o := by
        cases ky <;> simp only at e
        all_goals first
          | exact .inl (by simpa using e.symm)
          | (cases ei : ix y N with
             | none => rw [ei] at e; exact .inl (by simpa using e.symm)
             | some j => rw [ei] at e; exact .inr ⟨_, by simpa using e.symm⟩)
      rcases List.mem_cons.mp h with h | h
      · obtain ⟨q1, q2⟩ := Prod.mk.inj h
        subst q1 q2
        have e : own = (x, i) :: o := by
          rcases hk with rfl | rfl <;> (simp only [hi] at e; simpa using e.symm)
        rw [e]; exact List.mem_cons_self
      · have := ownIx_ok er x i ⟨kk, h, hk⟩ hi
        rcases up with rfl | ⟨p, rfl⟩
        · exact this
        · exact List.mem_cons_of_mem _ this
theorem lookup_mem {l : List (Str × NameKind)} {x : Str} {kk : NameKind} (h : l.lookup x = some kk) : (x, kk) ∈ l := by
  induction l with
  | nil => cases h
  | cons p l ih =>
    obtain ⟨y, ky⟩ := p
    simp only [List.lookup_cons] at h
    split at h
    · rename_i q
      have q : x = y := by simpa using q
      have h : ky = kk := by simpa using h
      subst q h
      exact List.mem_cons_self
    · exact List.mem_cons_of_mem _ (ih h)
theorem relS_local {cs sc : Scope} {x : Str} (h : isLoc (relS cs sc) x = true) : ∃ kk, (x, kk) ∈ cs.names ∧ (kk = .local ∨ kk = .cell) := by
  unfold isLoc at h
  split at h
  · rename_i q
    have := lookup_mem q
    unfold relS at this
    simp only [List.mem_map] at this
    obtain ⟨⟨y, ky⟩, hy, e⟩ := this
    simp only at e
    split at e
    · cases e
    · cases e; exact ⟨_, hy, .inl rfl⟩
  · cases h
theorem blkK {N : List Str} {s1 s2 : Scope} {own : List (Str × Nat)} (h : blkC N s1 s2 own = true) : s2.kind = .function := (blkOk_by h).kind
abbrev Cx.bk (X : Cx) (cs : Scope) (s : Shared) (H : Hp) (A : Addr) (cl : List (Str × Addr)) (fp : List Addr) : Cx := X.blk s H cs (compEnvC cs cl A X.env) fp
theorem Cxt.blk (c : Cxt C k sc X Wx) {cs : Scope} (hk : cs.kind = .function) {s : Shared} {H : Hp} {A : Addr} {cl : List (Str × Addr)} {fp : List Addr} : Cxt C k (relS cs sc) (KR.Cx.bk X cs s H A cl fp) W0 := by
  refine ⟨c.gl, c.N, c.nd, ?_, hk, c.calm, c.room, takes0⟩
  show relabel cs X.env = relS cs sc
  have := c.scp
  subst this
  rfl
theorem po_ok {α β : Type} {rel : Hp → List Addr → α → β → Prop} {K : PySem.W.Frag} {F H : Hp} {ρ : List Addr} {σ : L2.St} {m : M α} {h h' : Hs} {a : α} {Q : β → Hp → Prop} (e : m h = .ok a h') (q : ∀ F' ρ' H' b, Ext F ρ H F' ρ' H' → Wd K F' ρ' h' H' → rel F' ρ' a b → Q b H') : Po rel Wx K F ρ H σ (m h) Q := by
  rw [e]; exact q
theorem bnd_ok {α β : Type} {m : M α} {f : α → M β} {h h' : Hs} {b : β} (e : bnd m f h = .ok b h') : ∃ a h1, m h = .ok a h1 ∧ f a h1 = .ok b h' := by
  unfold bnd at e
  cases q : m h with
  | ok a h1 => rw [q] at e; exact ⟨a, h1, rfl, e⟩
  | ex c h1 => rw [q] at e; cases e
  | no => rw [q] at e; cases e
theorem bnd_assoc {α β γ : Type} (m : M α) (f : α → M β) (g : β → M γ) (h : Hs) : bnd (bnd m f) g h = bnd m (fun a => bnd (f a) g) h := by
  unfold bnd
  cases m h <;> rfl
theorem fsi (e : Expr) (h : notSetE e = true) (E : PySem.Env) (x : Value) : foldedSetIterable e E x = pure x := by
  cases e <;> first | rfl | cases h
/-- what the tests of the block ask -/
def tTs (X : Cx) (cs : Scope) (ifs : List Expr) : TT := match ifs with
  | [] => tYes
  | [t] => fun σ H Q => ∀ s H0 A cl fp, tSemT (KR.Cx.bk X cs s H0 A cl fp) t σ H Q
  | _ => fun _ _ _ => False
/-- the list that grows -/
structure Grow (K : PySem.W.Frag) (F1 : Hp) (ρ1 : List Addr) (H1 : Hp) (D : Addr) (F2 : Hp) (ρ2 : List Addr) (h2 : Hs) (H : Hp) (acc : List KR.D) (av : List V) : Prop where
  x : Ext F1 ρ1 H1 F2 ρ2 H
  wd : Wd K F2 ρ2 h2 H
  fD : F2 D = none
  rD : D ∉ ρ2
  hD : H D = some (.lst av)
  rep : RepL K F2 acc av
theorem Grow.step {K : PySem.W.Frag} {F1 : Hp} {ρ1 : List Addr} {H1 : Hp} {D : Addr} {F2 F3 : Hp} {ρ2 ρ3 : List Addr} {h2 h3 : Hs} {H H3 : Hp} {acc : List KR.D} {av : List V} (g : Grow K F1 ρ1 H1 D F2 ρ2 h2 H acc av) (x : Ext F2 ρ2 H F3 ρ3 H3) (wd : Wd K F3 ρ3 h3 H3) : Grow K F1 ρ1 H1 D F3 ρ3 h3 H3 acc av where
  x := g.x.trans x
  wd := wd
  fD := x.fs D g.fD (by rw [g.hD]; simp)
  rD := fun q => by have := x.rs D q g.rD; rw [g.hD] at this; cases this
  hD := x.fr D _ g.hD g.rD
  rep := g.rep.mono x.sub
theorem Grow.add {K : PySem.W.Frag} {F1 : Hp} {ρ1 : List Addr} {H1 : Hp} {D : Addr} {F2 : Hp} {ρ2 : List Addr} {h2 : Hs} {H : Hp} {acc : List KR.D} {av : List V} (g : Grow K F1 ρ1 H1 D F2 ρ2 h2 H acc av) (n : H1 D = none) {d : KR.D} {v : V} (r : Rep K F2 d v) : Grow K F1 ρ1 H1 D F2 ρ2 h2 (upd H D (.lst (av ++ [v]))) (acc ++ [d]) (av ++ [v]) where
  x := by
    have x := g.x
    refine ⟨x.sub, x.pre, fun a o e na => ?_, x.fs, x.rs, fun a q => ?_⟩
    · rw [upd_ne (ne_of_none e n)]; exact x.fr a o e na
    · by_cases c : a = D
      · subst c; rw [upd_same]; simp
      · rw [upd_ne c]; exact x.al a q
  wd := by
    have wd := g.wd
    refine ⟨fun a o e => ?_, wd.len, wd.nd, wd.free, fun i b e => ?_⟩
    · rw [upd_ne (ne_of_none e g.fD)]; exact wd.sub a o e
    · obtain ⟨a, o, e1, e2, ro⟩ := wd.obs i b e
      have : a ≠ D := fun z => g.rD (by rw [← z]; exact List.mem_of_getElem? e1)
      exact ⟨a, o, e1, by rw [upd_ne this]; exact e2, ro⟩
  fD := g.fD
  rD := g.rD
  hD := upd_same
  rep := g.rep.append ⟨v, [], rfl, r, rfl⟩
theorem Grow.done {K : PySem.W.Frag} {F1 : Hp} {ρ1 : List Addr} {H1 : Hp} {D : Addr} {F2 : Hp} {ρ2 : List Addr} {h2 : Hs} {H : Hp} {acc : List KR.D} {av : List V} (g : Grow K F1 ρ1 H1 D F2 ρ2 h2 H acc av) (n : H1 D = none) :
    Ext F1 ρ1 H1 (upd F2 D (.lst av)) ρ2 H ∧ Wd K (upd F2 D (.lst av)) ρ2 h2 H ∧ Rep K (upd F2 D (.lst av)) (.lst acc) (.ref D) := by
  have x := g.x
  have wd := g.wd
  have s : Sub F2 (upd F2 D (.lst av)) := .new g.fD _
  refine ⟨⟨x.sub.trans s, x.pre, x.fr, fun a e q => ?_, x.rs, x.al⟩, ⟨fun a o e => ?_, wd.len, wd.nd, fun a ha => ?_, fun i b e => ?_⟩, D, av, rfl, upd_same, g.rep.mono s⟩
  · have : a ≠ D := fun z => q (by rw [z]; exact n)
    rw [upd_ne this]; exact x.fs a e q
  · by_cases c : a = D
    · subst c; rw [upd_same] at e; cases e; exact g.hD
    · rw [upd_ne c] at e; exact wd.sub a o e
  · have : a ≠ D := fun z => g.rD (by rw [← z]; exact ha)
    rw [upd_ne this]; exact wd.free a ha
  · obtain ⟨a, o, e1, e2, ro⟩ := wd.obs i b e
    exact ⟨a, o, e1, e2, ro.mono s (List.prefix_refl _)⟩
end
end KR
/-! KR: comprehensions, the walk. -/
namespace KR
open PySem PySem.Spec PyProof.Rows L2
section
variable {C : Cfg} {k : Nat} {sc : Scope} {X : Cx} {Wx : WX} {env : Env}
theorem noEx_ok {α : Type} {m : M α} {h h' : Hs} {a : α} (e : noEx m h = .ok a h') : m h = .ok a h' := by
  unfold noEx at e
  cases q : m h with
  | ok b h1 => rw [q] at e; exact e
  | ex c h1 => rw [q] at e; cases e
  | no => rw [q] at e; cases e
theorem pts_of {X : Cx} {cs : Scope} {ifs : List Expr} {s : Shared} {H : Hp} {A : Addr} {cl : List (Str × Addr)} {fp : List Addr} (hl : ifs.length ≤ 1) : PTs (KR.Cx.bk X cs s H A cl fp) ifs (tTs X cs ifs) := by
  match ifs, hl with
  | [], _ => exact pts_nil
  | [t], _ => exact pts_one ⟨fun pins s1 σ H1 Q I h => h s H A cl fp pins s1 I⟩
abbrev tGb (X : Cx) (cs : Scope) (tg : Expr) : TG := fun v σ H Q => ∀ s H0 A cl fp, tSemG (KR.Cx.bk X cs s H0 A cl fp) tg v σ H Q
abbrev tEb (X : Cx) (cs : Scope) (el : Expr) : TE := fun σ H Q => ∀ s H0 A cl fp, tSem (KR.Cx.bk X cs s H0 A cl fp) el σ H Q
theorem lc_tLc (c : Cxt C k sc X Wx) {el tg it : Expr} {ifs : List Expr} {cs : Scope} {own : List (Str × Nat)} {mi : M (List Y)} {mt : Env → M Bool} {me : Env → M W} (hb : blkC C.N sc cs own = true) (ho : ownIx C.N cs.names = some own) (hi : SI X Wx env tg it mi)
    (he : ∀ s H A cl fp e1, SE (KR.Cx.bk X cs s H A cl fp) W0 e1 el (me e1)) (ht : ∀ t ∈ ifs, ∀ s H A cl fp e1, ST (KR.Cx.bk X cs s H A cl fp) W0 e1 t (mt e1)) (hl : ifs.length ≤ 1) {F H : Hp} {ρ : List Addr} {h : Hs} {σ : L2.St} {Q : VK}
    (wd : Wd X.K F ρ h H) (er : EnvR X.K F ρ env σ) (p : Po (rW X.K) Wx X.K F ρ H σ (bnd mi (fun ys => bnd (lcM (stepM C.N (relS cs sc) tg ifs own env mt me) ys []) fun xs => ret (.d (.lst xs))) h) Q) :
    tLc (tSemI X tg it) (tGb X cs tg) (tTs X cs ifs) (tEb X cs el) (own.map (·.2)) σ H Q := by
  refine hi F ρ h σ H _ wd er (p.bnd.mono fun J H1 ⟨F1, ρ1, h1, ys, x1, wd1, wy, p1⟩ => ?_)
  intro D hD
  have er1 := (er.mono x1.sub x1.pre).wipe (own.map (·.2))
  refine lc_it (g := tGb X cs tg) (tt := tTs X cs ifs) (te := tEb X cs el) (vs := own.map (·.2)) (σ := σ) wy (Pv := fun i H2 => ∃ F2 ρ2 h2 acc av, Grow X.K F1 ρ1 H1 D F2 ρ2 h2 H2 acc av ∧ Po (rW X.K) Wx X.K F1 ρ1 H1 σ (bnd (lcM (stepM C.N (relS cs sc) tg ifs own env mt me) (ys.drop i) acc) (fun xs => ret (.d (.lst xs))) h2) Q) ?_ ?_ ?_ ?_
  · refine ⟨F1, ρ1, h1, [], [], ⟨?_, ⟨fun a o e => ?_, wd1.len, wd1.nd, wd1.free, fun i b e => ?_⟩, wd1.sub.none hD, fun q => wd1.alive q hD, upd_same, rfl⟩, p1⟩
    · refine ⟨.refl _, List.prefix_refl _, fun a o e _ => ?_, fun a e _ => e, fun a q n => absurd q n, fun a q => ?_⟩
      · rw [upd_ne (ne_of_none e hD)]; exact e
      · by_cases z : a = D
        · subst z; rw [upd_same]; simp
        · rw [upd_ne z]; exact q
    · have e' := wd1.sub a o e
      rw [upd_ne (ne_of_none e' hD)]; exact e'
    · obtain ⟨a, o, e1, e2, ro⟩ := wd1.obs i b e
      exact ⟨a, o, e1, by rw [upd_ne (ne_of_none e2 hD)]; exact e2, ro⟩
  · rintro i H2 _ ⟨F2, ρ2, h2, acc, av, g, _⟩
    exact g.x.sub.trans g.wd.sub
  · rintro i x H2 H3 hi ⟨F2, ρ2, h2, acc, av, g, p2⟩ ⟨y, hy, yr⟩
    have hd : ys.drop i = y :: ys.drop (i + 1) := by
      obtain ⟨hlt, e⟩ := List.getElem?_eq_some_iff.mp hy
      rw [← e]; exact List.drop_eq_getElem_cons hlt
    rw [hd] at p2
    have p2 : Po (rW X.K) Wx X.K F1 ρ1 H1 σ (bnd (bnd (stepM C.N (relS cs sc) tg ifs own env mt me y) fun o => match o with
      | none => lcM (stepM C.N (relS cs sc) tg ifs own env mt me) (ys.drop (i + 1)) acc
      | some (.d x) => if lenOk acc.length then lcM (stepM C.N (relS cs sc) tg ifs own env mt me) (ys.drop (i + 1)) (acc ++ [x]) else bad
      | some (.r _) => bad) (fun xs => ret (.d (.lst xs))) h2) Q := p2
    rw [bnd_assoc] at p2
    obtain ⟨o, h3, e3, p3⟩ := po_noEx p2
    cases eb : bindY C.N (isLoc (relS cs sc)) 4 tg y (wipeE env (own.map (·.2))) with
    | none => rw [eb] at e3; cases e3
    | some e1 =>
      rw [eb] at e3
      have e3 : tst ifs mt me e1 h2 = .ok o h3 := e3
      intro s H0 A cl fp
      have cb := c.blk (cs := cs) (blkK hb) (s := s) (H := H0) (A := A) (cl := cl) (fp := fp)
      have st : StOk (KR.Cx.bk X cs s H0 A cl fp) (isLoc (relS cs sc)) := fun x hx => by
        have : (KR.Cx.bk X cs s H0 A cl fp).env.scope.names.lookup x = some .local := by
          rw [cb.scp]
          unfold isLoc at hx
          split at hx
          · assumption
          · cases hx
        exact ⟨.inl this, .inr this⟩
      refine sg_bind (X := KR.Cx.bk X cs s H0 A cl fp) c.calm c.N c.nd st (vs := own.map (·.2)) (fun x i hx hxi => ownIx_ok ho x i (relS_local hx) hxi) g.x.sub g.wd eb yr (er1.mono g.x.sub g.x.pre) fun F3 σ2 x3 wd3 er3 on => ?_
      have g3 := g.step x3 wd3
      have on : L2.wipe σ2 (own.map (·.2)) = L2.wipe σ (own.map (·.2)) := by
        refine on.trans ?_
        have : ∀ vs : List Nat, ∀ τ : L2.St, L2.wipe (L2.wipe τ vs) vs = L2.wipe τ vs := by
          intro vs
          have key : ∀ (us : List Nat) (τ : L2.St), (∀ u ∈ us, ∀ w, (L2.wipe τ vs)[u]? = some w → w = none) → L2.wipe (L2.wipe τ vs) us = L2.wipe τ vs := by
            intro us
            induction us with
            | nil => intros; rfl
            | cons u us ih =>
              intro τ hu
              show (L2.wipe (L2.wipe τ vs) us).set u none = _
              rw [ih τ fun w hw => hu w (List.mem_cons_of_mem _ hw)]
              refine List.ext_getElem? fun j => ?_
              by_cases cj : j = u
              · subst cj
                by_cases hl : j < (L2.wipe τ vs).length
                · rw [List.getElem?_set_self hl]
                  have := hu j List.mem_cons_self _ (List.getElem?_eq_getElem hl)
                  rw [List.getElem?_eq_getElem hl, this]
                · rw [List.getElem?_eq_none (by simpa using hl), List.getElem?_eq_none (by simpa using hl)]
              · rw [List.getElem?_set_ne (Ne.symm cj)]
          intro τ
          refine key vs τ fun u hu w hw => ?_
          cases w with
          | none => rfl
          | some v => exact absurd hu (wipe_some hw).2
        exact this _ _
      refine ⟨on, ?_⟩
      -- the value of the element
      have elt : ∀ {w : W} {F4 H4 : Hp} {ρ4 : List Addr} {h4 : Hs}, Grow X.K F1 ρ1 H1 D F4 ρ4 h4 H4 acc av → EnvR X.K F4 ρ4 e1 σ2 → me e1 h4 = .ok w h3 → o = some w → ∀ s H0 A cl fp, tSem (KR.Cx.bk X cs s H0 A cl fp) el σ2 H4 fun y H5 => ∃ acc', H5 D = some (.lst acc') ∧ acc'.length < sizeLine ∧ ∃ F2 ρ2 h2 acc av, Grow X.K F1 ρ1 H1 D F2 ρ2 h2 (upd H5 D (.lst (acc' ++ [y]))) acc av ∧ Po (rW X.K) Wx X.K F1 ρ1 H1 σ (bnd (lcM (stepM C.N (relS cs sc) tg ifs own env mt me) (ys.drop (i + 1)) acc) (fun xs => ret (.d (.lst xs))) h2) Q := by
        intro w F4 H4 ρ4 h4 g4 er4 em eo s H0 A cl fp
        refine he s H0 A cl fp e1 F4 ρ4 h4 σ2 H4 _ g4.wd er4 (po_ok em fun F5 ρ5 H5 v x5 wd5 rv => ?_)
        have g5 := g4.step x5 wd5
        rw [eo] at p3
        cases w with
        | r j => exact p3.elim
        | d d =>
          simp only at p3
          cases hlen : lenOk acc.length with
          | false => rw [hlen] at p3; exact p3.elim
          | true =>
            rw [hlen] at p3
            refine ⟨av, g5.hD, ?_, F5, ρ5, h3, acc ++ [d], av ++ [v], g5.add hD rv, p3⟩
            have := lenOk_sz hlen
            rw [← g5.rep.length]
            have h1 : acc.length ≤ 1000000 := by simpa [lenOk] using hlen
            have h2 : (1000000 : Nat) < sizeLine := by rw [sizeLine_eq]; omega
            omega
      match ifs, hl with
      | [], _ =>
        obtain ⟨w, h4, em, eo⟩ := bnd_ok e3
        cases eo
        unfold tTs tYes
        exact iteT (elt g3 er3 em rfl)
      | [t], _ =>
        obtain ⟨b, h4, em, eo⟩ := bnd_ok e3
        intro s H0 A cl fp
        refine ht t List.mem_cons_self s H0 A cl fp e1 F3 ρ2 h2 σ2 H3 _ wd3 er3 (po_ok em fun F5 ρ5 H5 b' x5 wd5 rb => ?_)
        have rb : b = b' := rb
        subst rb
        have g5 := g3.step x5 wd5
        cases b with
        | true =>
          obtain ⟨w, h5, em2, eo⟩ := bnd_ok eo
          cases eo
          exact iteT (elt g5 (er3.mono x5.sub x5.pre) em2 rfl)
        | false =>
          cases eo
          exact iteF ⟨F5, ρ5, h3, acc, av, g5, p3⟩
  · rintro H2 ⟨F2, ρ2, h2, acc, av, g, p2⟩
    have hd : ys.drop ys.length = [] := List.drop_length
    rw [hd] at p2
    obtain ⟨x, wd2, r⟩ := g.done hD
    exact p2 _ _ _ _ x wd2 r
theorem se_lc (c : Cxt C k sc X Wx) {el tg it : Expr} {ifs : List Expr} {cs : Scope} {own : List (Str × Nat)} {pos : Pos} {mi : M (List Y)} {mt : Env → M Bool} {me : Env → M W} (hb : blkC C.N sc cs own = true) (ho : ownIx C.N cs.names = some own) (hns : notSetE it = true) (hi : SI X Wx env tg it mi)
    (he : ∀ s H A cl fp e1, SE (KR.Cx.bk X cs s H A cl fp) W0 e1 el (me e1)) (ht : ∀ t ∈ ifs, ∀ s H A cl fp e1, ST (KR.Cx.bk X cs s H A cl fp) W0 e1 t (mt e1)) (hl : ifs.length ≤ 1) :
    SE X Wx env (.ListComp el [⟨tg, it, ifs, 0⟩] cs pos) (bnd mi fun ys => bnd (lcM (stepM C.N (relS cs sc) tg ifs own env mt me) ys []) fun xs => ret (.d (.lst xs))) := by
  intro F ρ h σ H Q wd er p
  refine sem_of (pe_lc (own := own) (g := tGb X cs tg) (tt := tTs X cs ifs) (te := tEb X cs el) c.calm (by rw [c.N]; exact c.nd) pi_sem (blkOk_by (by rw [c.N, c.scp]; exact hb)) (fun s H A cl fp => ⟨fun pins s1 σ H1 v u Q I r h => h s H A cl fp pins s1 u I r⟩) (fun s H A cl fp => pts_of hl) (fun s H A cl fp => ⟨fun pins s1 σ H1 Q I h => h s H A cl fp pins s1 I⟩) (fun x => fsi _ hns _ _)) ?_
  exact lc_tLc c hb ho hi he ht hl wd er p
end
end KR
/-! KR: o.strip(c).replace(y, z). -/
namespace KR
open PySem PySem.Spec PyProof.Rows L2
theorem replS_mem {y z : List Nat} : ∀ {n : Nat} {l : List Nat} {c : Nat}, c ∈ PySem.StrLaws.replS y z n l → c ∈ z ∨ c ∈ l
  | _, [], c, h => by simp [PySem.StrLaws.replS] at h
  | 0, d :: r, c, h => by
    unfold PySem.StrLaws.replS at h
    split at h
    · rcases List.mem_append.mp h with h | h
      · exact .inl h
      · exact (replS_mem h).imp id (List.mem_cons_of_mem _)
    · rcases List.mem_cons.mp h with rfl | h
      · exact .inr List.mem_cons_self
      · exact (replS_mem h).imp id (List.mem_cons_of_mem _)
  | n + 1, d :: r, c, h => by
    unfold PySem.StrLaws.replS at h
    exact (replS_mem h).imp id (List.mem_cons_of_mem _)
theorem replK_ok {f : Expr} {args : List Expr} {pos : Pos} {o : Expr} {c y z : Str} (h : replK f args pos = some (o, c, y, z)) :
    ∃ ap2 j0 p0 pos2 ap j1 p1 j2 p2, f = .Attribute (.Call (.Attribute o "strip" ap2) [.Constant (.str c) j0 p0] [] pos2) "replace" ap ∧ args = [.Constant (.str y) j1 p1, .Constant (.str z) j2 p2] ∧ (ap.endLine == pos.line) = true ∧ (ap2.endLine == pos2.line) = true ∧ plainBase o = true := by
  unfold replK at h
  split at h
  · split at h
    · rename_i hh
      cases h
      simp only [Bool.and_eq_true, decide_eq_true_eq] at hh
      obtain ⟨rfl, rfl, h1, h2, h3⟩ := hh
      exact ⟨_, _, _, _, _, _, _, _, _, rfl, rfl, h1, h2, h3⟩
    · cases h
  · cases h
section
variable {C : Cfg} {k : Nat} {sc : Scope} {X : Cx} {Wx : WX} {env : Env}
theorem se_repl (c : Cxt C k sc X Wx) {f : Expr} {args : List Expr} {pos : Pos} {o : Expr} {cc y z : Str} {mo : M W} (hk : replK f args pos = some (o, cc, y, z)) (ho : SE X Wx env o mo) :
    SE X Wx env (.Call f args [] pos) (bnd (noEx mo) fun w => ofD (replD cc y z w)) := by
  obtain ⟨ap2, j0, p0, pos2, ap, j1, p1, j2, p2, rfl, rfl, l1, l2, hb⟩ := replK_ok hk
  intro F ρ h σ H Q wd er p pins s I0
  obtain ⟨w, h0, e0, p3⟩ := po_noEx p
  obtain ⟨d, ed, q⟩ := po_ofD p3
  -- what the text is
  unfold replD at ed
  split at ed
  · rename_i t0
    split at ed
    · rename_i b t hy ht
      split at ed
      · rename_i hh
        cases ed
        simp only [Bool.and_eq_true, decide_eq_true_eq, Bool.not_eq_true'] at hh
        obtain ⟨q1, q2, q3, q4, q5⟩ := hh
        refine PySem.Call_method2 rfl rfl l1 ?_
        refine wpAny_Call_method_late (base_of hb) (few_of (args := [.Constant (.str cc) j0 p0]) rfl (by show 1 < 20; decide)) l2 rfl ?_
        refine thn (ho F ρ h σ H (fun v H1 => ∃ F1 ρ1, Ext F ρ H F1 ρ1 H1 ∧ Wd X.K F1 ρ1 h0 H1 ∧ Rep X.K F1 (.str t0) v) wd er (by rw [e0]; exact fun F1 ρ1 H1 v x w r => ⟨F1, ρ1, x, w, r⟩) pins s I0) fun u s1 hx => ?_
        obtain ⟨v, H1, I1, ru, F1, ρ1, x1, wd1, r1⟩ := hx
        obtain ⟨t1, t2⟩ := recv_ok I1 wd1.sub r1 ru (T := "str") rfl
        refine ⟨"str", _, PySem.F.plainAttrs_str, PySem.F.slot_str_strip, PySem.F.type_str_strip, t1, t2, ?_⟩
        refine call_args rfl ?_
        refine Calls.spliced_cons (Calls.Constant_str (k := j0) (pos := p0) (Calls.spliced_nil ?_))
        have I2 : Inv X pins σ H1 { s1 with toks := s1.toks + 1 } := I1.tok _
        have run := mD_strip (X := X) pins { s1 with toks := s1.toks + 1 } σ H1 v [.str cc] u [.str cc s1.toks] (fun v' H2 => ∃ F2 ρ2, Ext F1 ρ1 H1 F2 ρ2 H2 ∧ Wd X.K F2 ρ2 h0 H2 ∧ Rep X.K F2 (.str t) v') I2 ru (.cons ⟨_, rfl⟩ .nil)
          ⟨F1, ρ1, h0, .str t0, [.str cc.cps.toList], .str t, wd1, r1, ⟨_, [], rfl, ⟨congrArg V.str (St_of (z := cc) rfl), q3⟩, rfl⟩, ht, ?_⟩
        · refine wpAny_mono (PySem.wpAny_toks_of (n := 1) (by show 1 ≤ s1.toks + 1; omega) run) (fun v' s3 hz => ?_) fun _ _ z => z.2
          obtain ⟨hk, v2, H2, I3, rv, F2, ρ2, x2, wd2, e5, okt⟩ := hz
          subst e5
          obtain ⟨tk, e7⟩ := rv
          subst e7
          refine ⟨"str", _, PySem.F.plainAttrs_str, PySem.F.slot_str_replace, PySem.F.type_str_replace, typeIs_str _ _ _, (fun _ e => nomatch e), Calls.callWith_builtin rfl (Calls.evalArgs_plain (Calls.spliced_cons ?_))⟩
          refine Calls.Constant_str (k := j1) (pos := p1) (Calls.spliced_cons (Calls.Constant_str (k := j2) (pos := p2) (Calls.spliced_nil ?_)))
          have hlen : (St t).length + ((St t).length + 1) * z.length ≤ 16777216 := by
            have e1 : (St t).length = t.length := St_len t
            have e2 : z.length = z.cps.toList.length := by simp [Str.length]
            have h1 : t.length ≤ 1000000 := by simpa [lenOk] using q1
            rw [e1, e2]
            have : (t.length + 1) * z.cps.toList.length ≤ (t.length + 1) * 10 := Nat.mul_le_mul_left _ q2
            omega
          refine PySem.SC.replace (by show s3.toks ≠ 0; omega) (by show s3.toks + 1 ≠ 0; omega) (by show s3.toks ≠ s3.toks + 1; omega) q5 hlen fun t' kk => ?_
          have ev : Txt.replace (St t) y z = St (PySem.StrLaws.replL [b] z.cps.toList t) := by
            refine St_of ?_
            have hy1 : 1 ≤ y.length := by
              have : y.length = y.cps.toList.length := by simp [Str.length]
              rw [this, hy]; exact Nat.le_refl 1
            rw [PySem.StrLaws.replace_list hy1, hy]
            simp [St]
          refine ⟨.str (Txt.replace (St t) y z), H2, I3.tok kk, ⟨t', rfl⟩, ?_⟩
          rw [ev]
          refine q F2 ρ2 H2 _ (x1.trans x2) wd2 ⟨rfl, ?_⟩
          unfold okT at okt q4 ⊢
          refine List.all_eq_true.mpr fun cx hcx => ?_
          rcases replS_mem hcx with hm | hm
          · exact List.all_eq_true.mp q4 cx hm
          · exact List.all_eq_true.mp okt cx hm
        · exact fun F2 ρ2 H2 v2 x2 wd2 rr => ⟨F2, ρ2, x2, wd2, rr⟩
      · cases ed
    · cases ed
  · cases ed
end
end KR
/-! KR: expressions, all of them. -/
namespace KR
open PySem PySem.Spec PyProof.Rows L2

structure Snd (C : Cfg) (k n : Nat) : Prop where
  e : ∀ {sc : Scope} {X : Cx} {Wx : WX} (env : Env) (e : Expr), Cxt C k sc X Wx → SE X Wx env e (ev C n sc env e)
  l : ∀ {sc : Scope} {X : Cx} {Wx : WX} (env : Env) (es : List Expr), Cxt C k sc X Wx → SA X Wx env es (evL C n sc env es)
  o : ∀ {sc : Scope} {X : Cx} {Wx : WX} (env : Env) (e : Option Expr), Cxt C k sc X Wx → SO X Wx env e (evO C n sc env e)
  b : ∀ {sc : Scope} {X : Cx} {Wx : WX} (env : Env) (op : BoolOp) (es : List Expr) (pos : Pos), Cxt C k sc X Wx → SE X Wx env (.BoolOp op es pos) (evB C n sc env op es)
  a : ∀ {sc : Scope} {X : Cx} {Wx : WX} (env : Env) (op : BoolOp) (es : List Expr) (pos : Pos), Cxt C k sc X Wx → SW X Wx env (.BoolOp op es pos) (evA C n sc env op es)
  c : ∀ {sc : Scope} {X : Cx} {Wx : WX} (env : Env) (a : Expr) (ops : List CmpOp) (bs : List Expr) (pos : Pos), Cxt C k sc X Wx → SC2 X Wx env (.Compare a ops bs pos) (evC C n sc env a ops bs)
  t : ∀ {sc : Scope} {X : Cx} {Wx : WX} (env : Env) (e : Expr), Cxt C k sc X Wx → ST X Wx env e (evT C n sc env e)
  i : ∀ {sc : Scope} {X : Cx} {Wx : WX} (env : Env) (tg e : Expr), Cxt C k sc X Wx → SI X Wx env tg e (evI C n sc env tg e)

section
variable {C : Cfg} {k n : Nat} {sc : Scope} {X : Cx} {Wx : WX} {env : Env}
theorem se_bad {e : Expr} : SE X Wx env e bad := fun _ _ _ _ _ _ _ _ p => p.elim
theorem st_bad {e : Expr} : ST X Wx env e bad := fun _ _ _ _ _ _ _ _ p => p.elim
theorem sa_bad {es : List Expr} : SA X Wx env es bad := fun _ _ _ _ _ _ _ _ p => p.elim
theorem so_bad {e : Option Expr} : SO X Wx env e bad := fun _ _ _ _ _ _ _ _ p => p.elim
theorem sw_bad {e : Expr} : SW X Wx env e bad := fun _ _ _ _ _ _ _ _ _ p => p.elim
theorem si_bad {tg e : Expr} : SI X Wx env tg e bad := fun _ _ _ _ _ _ _ _ p => p.elim
theorem sc_bad {e : Expr} : SC2 X Wx env e bad := ⟨se_bad, fun _ _ _ _ _ _ _ _ p => p.elim⟩
theorem snd_0 : Snd C k 0 where
  e := fun _ _ _ => se_bad
  l := fun _ _ _ => sa_bad
  o := fun _ _ _ => so_bad
  b := fun _ _ _ _ _ => se_bad
  a := fun _ _ _ _ _ => sw_bad
  c := fun _ _ _ _ _ _ => sc_bad
  t := fun _ _ _ => st_bad
  i := fun _ _ _ _ => si_bad
theorem snd_l (S : Snd C k n) (c : Cxt C k sc X Wx) (es : List Expr) : SA X Wx env es (evL C (n + 1) sc env es) := by
  cases es with
  | nil => exact sa_nil
  | cons e r =>
    unfold evL
    simp only
    split
    · rename_i h; exact sa_cons h (S.e env e c) (S.l env r c)
    · exact sa_bad
theorem snd_o (S : Snd C k n) (c : Cxt C k sc X Wx) (e : Option Expr) : SO X Wx env e (evO C (n + 1) sc env e) := by
  cases e with
  | none => exact so_none
  | some e => exact so_some (S.e env e c)
theorem snd_b (S : Snd C k n) (c : Cxt C k sc X Wx) (op : BoolOp) (es : List Expr) (pos : Pos) : SE X Wx env (.BoolOp op es pos) (evB C (n + 1) sc env op es) := by
  match es with
  | [] => exact se_bad
  | [e] => exact se_one c (S.e env e c)
  | e :: b :: r => exact se_bool c (S.e env e c) (S.b env op (b :: r) pos c)
theorem snd_a (S : Snd C k n) (c : Cxt C k sc X Wx) (op : BoolOp) (es : List Expr) (pos : Pos) : SW X Wx env (.BoolOp op es pos) (evA C (n + 1) sc env op es) := by
  match es with
  | [] => exact sw_bad
  | [e] => exact sw_one (S.t env e c)
  | e :: b :: r => exact sw_cons (S.t env e c) (S.a env op (b :: r) pos c)
theorem is_ne {op : CmpOp} (h : isIs op = false) : op ≠ .Is ∧ op ≠ .IsNot := by
  cases op <;> first | (cases h; done) | (constructor <;> intro q <;> cases q)
theorem snd_c (S : Snd C k n) (c : Cxt C k sc X Wx) (a : Expr) (ops : List CmpOp) (bs : List Expr) (pos : Pos) : SC2 X Wx env (.Compare a ops bs pos) (evC C (n + 1) sc env a ops bs) := by
  unfold evC
  split
  · exact sc_isN c (S.e env a c)
  · exact sc_notN c (S.e env a c)
  · split
    · exact sc_bad
    · rename_i h
      simp only [Bool.or_eq_false_iff] at h
      exact sc_cmp c h.1 (is_ne h.2).1 (is_ne h.2).2 (S.e env a c) (S.e env _ c)
  · split
    · exact sc_bad
    · rename_i h
      simp only [Bool.or_eq_false_iff] at h
      exact sc_chain c h.1 (is_ne h.2.1).1 (is_ne h.2.1).2 (is_ne h.2.2).1 (is_ne h.2.2).2 (S.e env a c) (S.e env _ c) (S.e env _ c)
  · exact sc_bad
theorem snd_t (S : Snd C k n) (c : Cxt C k sc X Wx) (e : Expr) : ST X Wx env e (evT C (n + 1) sc env e) := by
  cases e with
  | BoolOp op es pos => exact sw_st (S.a env op es pos c)
  | Compare a ops bs pos => exact (S.c env a ops bs pos c).2
  | IfExp _ _ _ _ => exact st_bad
  | UnaryOp op a pos =>
    cases op with
    | Not => exact st_not c (S.t env a c)
    | _ => exact st_truth c (fun _ => rfl) (S.e env _ c)
  | _ => exact st_truth c (fun _ => rfl) (S.e env _ c)
theorem snd_i (S : Snd C k n) (c : Cxt C k sc X Wx) (tg e : Expr) : SI X Wx env tg e (evI C (n + 1) sc env tg e) := by
  have val : itKind C.G sc tg e = .val → SI X Wx env tg e (evI C (n + 1) sc env tg e) := fun h => by
    unfold evI; rw [h]; exact si_val c (S.e env e c)
  have non : itKind C.G sc tg e = .none → SI X Wx env tg e (evI C (n + 1) sc env tg e) := fun h => by
    unfold evI; rw [h]; exact si_bad
  have q0 : ∃ kd, itKind C.G sc tg e = kd := ⟨_, rfl⟩
  obtain ⟨kd, q⟩ := q0
  have q' := q
  unfold itKind at q
  split at q
  · split at q
    · exact val (q'.trans q.symm)
    · rename_i f p0 args pos b hb
      simp only [Bool.and_eq_true] at hb
      obtain ⟨hg, hn, _⟩ := hb
      split at q
      · rename_i hf
        subst hf
        split at q
        · unfold evI; rw [q', ← q]
          simp only [List.all_cons, Bool.and_eq_true] at hn
          exact si_rng1 c hg hn.1 (S.e env _ c)
        · unfold evI; rw [q', ← q]
          simp only [List.all_cons, Bool.and_eq_true] at hn
          exact si_rng2 c hg hn.1 hn.2.1 (S.e env _ c) (S.e env _ c)
        · exact non (q'.trans q.symm)
      · split at q
        · rename_i hf
          subst hf
          split at q
          · rename_i ht
            unfold evI; rw [q', ← q]
            simp only [List.all_cons, Bool.and_eq_true] at hn
            cases tg with
            | Tuple elts kk tpos => exact si_enum c hg hn.1 (S.e env _ c)
            | _ => cases ht
          · exact non (q'.trans q.symm)
        · split at q
          · rename_i hf
            subst hf
            split at q
            · rename_i ht
              unfold evI; rw [q', ← q]
              simp only [List.all_cons, Bool.and_eq_true] at hn
              cases tg with
              | Tuple elts kk tpos => exact si_zip c hg hn.1 hn.2.1 (S.e env _ c) (S.e env _ c)
              | _ => cases ht
            · exact non (q'.trans q.symm)
          · exact val (q'.trans q.symm)
  · exact non (q'.trans q.symm)
  · exact val (q'.trans q.symm)
theorem snd_call (S : Snd C k n) (c : Cxt C k sc X Wx) (f : Expr) (args : List Expr) (pos : Pos) : SE X Wx env (.Call f args [] pos) (ev C (n + 1) sc env (.Call f args [] pos)) := by
  unfold ev
  simp only
  split
  · rename_i o cc y z hk
    exact se_repl c hk (S.e env o c)
  split
  · exact se_bad
  · rename_i hn
    split
    · rename_i x p0
      split
      · exact se_bad
      · rename_i hg
        split
        · rename_i I hf hl
          cases args with
          | nil =>
            cases n with
            | zero => exact se_bad
            | succ n => exact se_call0 c hg hf hl
          | cons e es => exact se_call c hg hf hl (by simp) hn (S.l env _ c)
        · exact se_bad
        · split
          · exact se_bad
          · split
            · rename_i fz hc
              exact se_make c hg hc (by simp) hn (S.l env _ c)
            · split
              · rename_i hx
                have hx := of_decide_eq_true hx
                subst hx
                split
                · rename_i heq
                  cases heq
                  split
                  · rename_i hT
                    simp only [Bool.and_eq_true] at hT
                    simp only [List.all_cons, Bool.and_eq_true] at hn
                    exact se_isi c hg hT.1 hT.2 hn.1 (S.e env _ c)
                  · exact se_bad
                · exact se_bad
              · split
                · rename_i hx
                  have hx := of_decide_eq_true hx
                  subst hx
                  split
                  · rename_i heq
                    cases heq
                    simp only [List.all_cons, Bool.and_eq_true] at hn
                    exact se_len c hg hn.1 (S.e env _ c)
                  · exact se_bad
                · split
                  · rename_i hb
                    exact se_blt c hg (of_decide_eq_true hb) (by simp) hn (S.l env _ c)
                  · exact se_bad
    · split
      · rename_i h
        simp only [Bool.and_eq_true, decide_eq_true_eq] at h
        refine se_meth c (fun e => ?_) h.1 h.2.1 hn h.2.2 (S.e env _ c) (S.l env _ c)
        subst e
        cases n with
        | zero => exact .inr rfl
        | succ n => exact .inl rfl
      · exact se_bad
    · exact se_bad
theorem oneGen_ok {gens : List Comprehension} {tg it : Expr} {ifs : List Expr} (h : oneGen gens = some (tg, it, ifs)) : gens = [⟨tg, it, ifs, 0⟩] := by
  match gens, h with
  | [g], h =>
    unfold oneGen at h
    simp only at h
    split at h
    · rename_i e
      obtain ⟨a, b, c, d⟩ := g
      cases h
      have e : d = 0 := e
      rw [e]
    · cases h
theorem snd_e (S : Snd C k n) (c : Cxt C k sc X Wx) (e : Expr) : SE X Wx env e (ev C (n + 1) sc env e) := by
  cases e with
  | Constant cn j pos => exact se_const c
  | Name x pos =>
    unfold ev
    simp only
    split
    · rename_i h; exact se_look c h
    · split
      · rename_i h; exact se_con c h
      · exact se_bad
  | BinOp l op r pos => exact se_bin c (S.e env l c) (S.e env r c)
  | UnaryOp op a pos =>
    cases op with
    | USub => exact se_neg c (S.e env a c)
    | Not => exact se_not c (S.e env a c)
    | _ => exact se_bad
  | BoolOp op es pos => exact S.b env op es pos c
  | IfExp t a b pos => exact se_if c (S.t env t c) (S.e env a c) (S.e env b c)
  | Compare a ops bs pos => exact (S.c env a ops bs pos c).1
  | Tuple es j pos => exact se_tup c (S.l env es c)
  | List es pos => exact se_lst c (S.l env es c)
  | Attribute o f pos =>
    unfold ev
    simp only
    split
    · rename_i h; exact se_att c h (S.e env o c)
    · exact se_bad
  | Subscript o i pos =>
    have plain : notSlice i = true → SE X Wx env (.Subscript o i pos) (bnd (ev C n sc env o) fun w => bnd (ev C n sc env i) fun j => getX w j) := fun h => se_sub c h (S.e env o c) (S.e env i c)
    cases i with
    | Slice lo hi st p2 =>
      cases st with
      | none => exact se_slice c (S.e env o c) (S.o env lo c) (S.o env hi c)
      | some _ => exact se_bad
    | _ => exact plain rfl
  | Call f args kws pos =>
    cases kws with
    | nil => exact snd_call S c f args pos
    | cons _ _ => exact se_bad
  | ListComp el gens cs pos =>
    unfold ev
    simp only
    split
    · exact se_bad
    · rename_i tg it ifs hg
      have hg := oneGen_ok hg
      subst hg
      split
      · rename_i own hb ho
        split
        · rename_i h
          simp only [Bool.and_eq_true, decide_eq_true_eq] at h
          refine se_lc c (own := own) (by rw [ho] at hb; exact hb) ho h.1 (S.i env tg it c) (fun s H A cl fp e1 => S.e e1 el (c.blk (blkK hb))) (fun t ht s H A cl fp e1 => ?_) h.2
          match ifs, h.2, ht with
          | [t'], _, ht =>
            have : t = t' := by simpa using ht
            subst this
            exact S.t e1 t (c.blk (blkK hb))
        · exact se_bad
      · exact se_bad
  | _ => exact se_bad
theorem snd : ∀ n, Snd C k n
  | 0 => snd_0
  | n + 1 =>
    have S := snd n
    { e := fun env e c => snd_e S c e
      l := fun env e c => snd_l S c e
      o := fun env e c => snd_o S c e
      b := fun env op es pos c => snd_b S c op es pos
      a := fun env op es pos c => snd_a S c op es pos
      c := fun env a ops bs pos c => snd_c S c a ops bs pos
      t := fun env e c => snd_t S c e
      i := fun env tg e c => snd_i S c tg e }
end
end KR
/-! KR: statements. -/
namespace KR
open PySem PySem.Spec PyProof.Rows L2

def sSem (X : Cx) (st : Stmt) : TS := fun D σ H => ∀ pins s, Inv X pins σ H s → wpAny (model X.prog X.w) X.A (exec st X.env) (SP X pins D) X.xe s
theorem ps_sem {X : Cx} {st : Stmt} : PS X st (sSem X st) := ⟨fun pins s _ _ _ I h => h pins s I⟩
theorem sems_of {X : Cx} {st : Stmt} {t : TS} {σ : L2.St} {H : Hp} {D : Ends} (h : PS X st t) (q : t D σ H) : sSem X st D σ H := fun pins s I => h.run pins s σ H D I q
def sSems (X : Cx) (st : List Stmt) : TS := fun D σ H => ∀ pins s, Inv X pins σ H s → wpAny (model X.prog X.w) X.A (execs st X.env) (SP X pins D) X.xe s
theorem pss_sem {X : Cx} {st : List Stmt} : PSs X st (sSems X st) := ⟨fun pins s _ _ _ I h => h pins s I⟩
theorem semss_of {X : Cx} {st : List Stmt} {t : TS} {σ : L2.St} {H : Hp} {D : Ends} (h : PSs X st t) (q : t D σ H) : sSems X st D σ H := fun pins s I => h.run pins s σ H D I q

def PoS (Wx : WX) (K : PySem.W.Frag) (F : Hp) (ρ : List Addr) (H : Hp) (D : Ends) (r : RS) : Prop := match r with
  | .nx e h' => ∀ F' ρ' H' σ', Ext F ρ H F' ρ' H' → Wd K F' ρ' h' H' → EnvR K F' ρ' e σ' → D.nx σ' H'
  | .bk e h' => ∀ F' ρ' H' σ', Ext F ρ H F' ρ' H' → Wd K F' ρ' h' H' → EnvR K F' ρ' e σ' → D.bk σ' H'
  | .ct e h' => ∀ F' ρ' H' σ', Ext F ρ H F' ρ' H' → Wd K F' ρ' h' H' → EnvR K F' ρ' e σ' → D.ct σ' H'
  | .rt w h' => ∀ F' ρ' H' v, Ext F ρ H F' ρ' H' → Wd K F' ρ' h' H' → RepW K F' ρ' w v → D.rt v H'
  | .ex c e h' => ∀ F' ρ' H' d σ', Ext F ρ H F' ρ' H' → Wd K F' ρ' h' H' → EnvR K F' ρ' e σ' → Wx (.ref (He.ga K c)) d σ' H'
  | .no => False
section
variable {α β : Type} {rel : Hp → List Addr → α → β → Prop} {Wx : WX} {K : PySem.W.Frag} {F F' H H' : Hp} {ρ ρ' : List Addr} {σ : L2.St} {D : Ends}
theorem PoS.ext {r : RS} (x : Ext F ρ H F' ρ' H') (h : PoS Wx K F ρ H D r) : PoS Wx K F' ρ' H' D r := by
  cases r with
  | nx e h' => exact fun F2 ρ2 H2 b y => h F2 ρ2 H2 b (x.trans y)
  | bk e h' => exact fun F2 ρ2 H2 b y => h F2 ρ2 H2 b (x.trans y)
  | ct e h' => exact fun F2 ρ2 H2 b y => h F2 ρ2 H2 b (x.trans y)
  | rt e h' => exact fun F2 ρ2 H2 b y => h F2 ρ2 H2 b (x.trans y)
  | ex c e h' => exact fun F2 ρ2 H2 d b y => h F2 ρ2 H2 d b (x.trans y)
  | no => exact h
/-- behind an expression -/
theorem PoS.expr {m : M α} {f : α → MS} {env : Env} {h : Hs} (er : EnvR K F ρ env σ) (p : PoS Wx K F ρ H D (exprS m env f h)) : Po rel Wx K F ρ H σ (m h) (At rel K F ρ H fun a h1 F1 ρ1 H1 => PoS Wx K F1 ρ1 H1 D (f a h1)) := by
  unfold exprS at p
  cases e : m h with
  | ok a h' =>
    rw [e] at p
    exact fun F2 ρ2 H2 b y wd q => ⟨F2, ρ2, h', a, y, wd, q, p.ext y⟩
  | ex c h' =>
    rw [e] at p
    exact fun F2 ρ2 H2 d y wd => p F2 ρ2 H2 d σ y wd (er.mono y.sub y.pre)
  | no => rw [e] at p; exact p
end
/-- within a def -/
structure Fxt (C : Cfg) (k : Nat) (sc : Scope) (X : Cx) (Wx : WX) : Prop extends Cxt C k sc X Wx where
  fnT : ∀ x, loc sc x = true → X.fn x = true ∨ X.env.scope.names.lookup x = some .local
  own : PassesOwn (model X.prog X.w) X.A X.env X.xe
  stk : X.stack = X.env :: X.outer
  fr : X.env.frame = some X.env.locals
def SS (X : Cx) (Wx : WX) (env : Env) (st : Stmt) (m : MS) : Prop := ∀ F ρ h σ H D, Wd X.K F ρ h H → EnvR X.K F ρ env σ → PoS Wx X.K F ρ H D (m h) → sSem X st D σ H
def SB (X : Cx) (Wx : WX) (env : Env) (st : List Stmt) (m : MS) : Prop := ∀ F ρ h σ H D, Wd X.K F ρ h H → EnvR X.K F ρ env σ → PoS Wx X.K F ρ H D (m h) → sSems X st D σ H
section
variable {C : Cfg} {k : Nat} {sc : Scope} {X : Cx} {Wx : WX} {env : Env}
theorem Fxt.st (c : Fxt C k sc X Wx) : StOk X (loc sc) := fun x h => by
  refine ⟨?_, c.fnT x h⟩
  unfold loc at h
  unfold L2.Loc
  rw [c.scp]
  split at h <;> first | exact .inl (by assumption) | exact .inr (by assumption) | cases h
theorem ix_lt : ∀ {N : List Str} {x : Str} {i : Nat}, ix x N = some i → i < N.length := fun h => (List.getElem?_eq_some_iff.mp (ix_get h)).1
theorem ss_no {st : Stmt} : SS X Wx env st (fun _ => .no) := fun _ _ _ _ _ _ _ _ p => p.elim
theorem sb_no {st : List Stmt} : SB X Wx env st (fun _ => .no) := fun _ _ _ _ _ _ _ _ p => p.elim
/-- a value stored to a name -/
theorem sg_put (c : Fxt C k sc X Wx) {x : Str} {pos : Pos} {w : W} {v : V} {env e1 : Env} {F H : Hp} {ρ : List Addr} {σ : L2.St} {Q : L2.St → Hp → Prop} (e : putL C.N sc x w env = some e1) (r : RepW X.K F ρ w v) (er : EnvR X.K F ρ env σ)
    (q : ∀ σ', EnvR X.K F ρ e1 σ' → Q σ' H) : tSemG X (.Name x pos) v σ H Q ∧ ∃ i, X.N[i]? = some x ∧ gName i v σ H Q := by
  unfold putL at e
  cases e1' : loc sc x with
  | false => rw [e1'] at e; cases e
  | true =>
    rw [e1'] at e
    cases e2 : ix x C.N with
    | none => rw [e2] at e; cases e
    | some i =>
      rw [e2] at e
      have e : env.set i (some w) = e1 := by simpa using e
      subst e
      obtain ⟨h1, h2⟩ := c.st x e1'
      have hi : X.N[i]? = some x := by rw [c.N]; exact ix_get e2
      have fin : gName i v σ H Q := q _ (er.set r)
      exact ⟨semG_of (pg_name (by rw [c.N]; exact c.nd) (i := i) hi h1 h2) fin, i, hi, fin⟩
theorem putL_loc {N : List Str} {x : Str} {w : W} {env e1 : Env} (e : putL N sc x w env = some e1) : loc sc x = true := by
  unfold putL at e
  cases q : loc sc x with
  | false => rw [q] at e; cases e
  | true => rfl
theorem tgs_of {E : PySem.Env} : ∀ {es : List Expr}, (∀ e ∈ es, (∃ x p, e = Expr.Name x p) ∨ ∃ ts k p, e = Expr.Tuple ts k p) → (assignEach es E).length = es.length ∧ (assignEach es E).findIdx? (·.1) = none
  | [], _ => ⟨rfl, rfl⟩
  | e :: es, h => by
    obtain ⟨h1, h2⟩ := tgs_of (E := E) (es := es) fun x hx => h x (List.mem_cons_of_mem _ hx)
    have : assignEach (e :: es) E = (false, assign e E) :: assignEach es E := by
      rcases h e List.mem_cons_self with ⟨_, _, rfl⟩ | ⟨_, _, _, rfl⟩ <;> rfl
    rw [this]
    refine ⟨by rw [List.length_cons, h1, List.length_cons], ?_⟩
    rw [List.findIdx?_cons, h2]
    rfl
theorem putT_form {N : List Str} {n : Nat} {t : Expr} {d : D} {env e1 : Env} (e : putT N sc n t d env = some e1) : (∃ x p, t = .Name x p) ∨ ∃ ts k p, t = .Tuple ts k p := by
  cases n with
  | zero => simp [putT] at e
  | succ n =>
    unfold putT at e
    split at e
    · exact .inl ⟨_, _, rfl⟩
    · exact .inr ⟨_, _, _, rfl⟩
    · cases e
theorem putTs_form {N : List Str} : ∀ {n : Nat} {ts : List Expr} {ds : List D} {env e1 : Env}, putTs N sc n ts ds env = some e1 → ∀ t ∈ ts, (∃ x p, t = Expr.Name x p) ∨ ∃ ts k p, t = Expr.Tuple ts k p
  | 0, _, _, _, _, e => by simp [putTs] at e
  | n + 1, [], [], _, _, e => fun t h => nomatch h
  | n + 1, [], _ :: _, _, _, e => by simp [putTs] at e
  | n + 1, _ :: _, [], _, _, e => by simp [putTs] at e
  | n + 1, t :: ts, d :: ds, env, e1, e => by
    unfold putTs at e
    simp only at e
    cases q : putT N sc n t d env with
    | none => rw [q] at e; cases e
    | some e2 =>
      rw [q] at e
      intro u hu
      rcases List.mem_cons.mp hu with rfl | hu
      · exact putT_form q
      · exact putTs_form e u hu
theorem putTs_len {N : List Str} : ∀ {n : Nat} {ts : List Expr} {ds : List D} {env e1 : Env}, putTs N sc n ts ds env = some e1 → ds.length = ts.length
  | 0, _, _, _, _, e => by simp [putTs] at e
  | n + 1, [], [], _, _, e => rfl
  | n + 1, [], _ :: _, _, _, e => by simp [putTs] at e
  | n + 1, _ :: _, [], _, _, e => by simp [putTs] at e
  | n + 1, t :: ts, d :: ds, env, e1, e => by
    unfold putTs at e
    simp only at e
    cases q : putT N sc n t d env with
    | none => rw [q] at e; cases e
    | some e2 =>
      rw [q] at e
      rw [List.length_cons, List.length_cons, putTs_len e]
def tSemGs (X : Cx) (ts : List Expr) : TGs := fun vs σ H Q => ∀ pins s us, Inv X pins σ H s → Vals vs us → wpAny (model X.prog X.w) X.A (assignInOrder ((assignEach ts X.env).map (·.2)) us) (fun _ s' => ∃ σ' H', Inv X pins σ' H' s' ∧ Q σ' H') X.xe s
theorem pgs_sem {X : Cx} {ts : List Expr} : PGs X ts (tSemGs X ts) := ⟨fun pins s _ _ _ us _ I r h => h pins s us I r⟩
theorem semGs_of {ts : List Expr} {t : TGs} {vs : List V} {σ : L2.St} {H : Hp} {Q : L2.St → Hp → Prop} (h : PGs X ts t) (q : t vs σ H Q) : tSemGs X ts vs σ H Q := fun pins s us I r => h.run pins s σ H vs us Q I r q
mutual
theorem sg_T (c : Fxt C k sc X Wx) {F H : Hp} {ρ : List Addr} (sb : Sub F H) : ∀ (n : Nat) {t : Expr} {d : D} {v : V} {env e1 : Env} {σ : L2.St} {Q : L2.St → Hp → Prop}, putT C.N sc n t d env = some e1 → Rep X.K F d v → EnvR X.K F ρ env σ → (∀ σ', EnvR X.K F ρ e1 σ' → Q σ' H) → tSemG X t v σ H Q
  | 0, _, _, _, _, _, _, _, e, _, _, _ => by simp [putT] at e
  | n + 1, t, d, v, env, e1, σ, Q, e, r, er, q => by
    rcases putT_form e with ⟨x, p, rfl⟩ | ⟨ts, kk, p, rfl⟩
    · unfold putT at e
      exact (sg_put c e (w := .d d) r er q).1
    · unfold putT at e
      simp only at e
      cases d with
      | tup ds =>
        obtain ⟨a, vs, rfl, g, rl⟩ := r
        obtain ⟨h1, h2⟩ := tgs_of (E := X.env) (putTs_form e)
        refine semG_of (pg_tup c.calm pgs_sem h1 h2) ⟨a, vs, rfl, (GT.mono sb g).t, by rw [← rl.length]; exact putTs_len e, ?_⟩
        exact sg_Ts c sb n e rl er q
      | _ => cases e
theorem sg_Ts (c : Fxt C k sc X Wx) {F H : Hp} {ρ : List Addr} (sb : Sub F H) : ∀ (n : Nat) {ts : List Expr} {ds : List D} {vs : List V} {env e1 : Env} {σ : L2.St} {Q : L2.St → Hp → Prop}, putTs C.N sc n ts ds env = some e1 → RepL X.K F ds vs → EnvR X.K F ρ env σ → (∀ σ', EnvR X.K F ρ e1 σ' → Q σ' H) → tSemGs X ts vs σ H Q
  | 0, _, _, _, _, _, _, _, e, _, _, _ => by simp [putTs] at e
  | n + 1, [], [], vs, env, e1, σ, Q, e, r, er, q => by
    have e : env = e1 := by simpa [putTs] using e
    subst e
    exact semGs_of pgs_nil ⟨r, q σ er⟩
  | n + 1, [], _ :: _, _, _, _, _, _, e, _, _, _ => by simp [putTs] at e
  | n + 1, _ :: _, [], _, _, _, _, _, e, _, _, _ => by simp [putTs] at e
  | n + 1, t :: ts, d :: ds, vs, env, e1, σ, Q, e, r, er, q => by
    unfold putTs at e
    simp only at e
    cases q2 : putT C.N sc n t d env with
    | none => rw [q2] at e; cases e
    | some e2 =>
      rw [q2] at e
      obtain ⟨v, vr, rfl, r1, r2⟩ := r
      have hs : (assignEach (t :: ts) X.env).map (·.2) = assign t X.env :: (assignEach ts X.env).map (·.2) := by
        rcases putT_form q2 with ⟨_, _, rfl⟩ | ⟨_, _, _, rfl⟩ <;> rfl
      refine semGs_of (pgs_cons pg_sem pgs_sem hs) ⟨v, vr, rfl, ?_⟩
      exact sg_T c sb n q2 r1 er fun σ' er' => sg_Ts c sb n e r2 er' q
end
/-! ### assignments -/
theorem sw_no {e : Expr} {t : Option Expr} {l : Nat} {E : PySem.Env} (h : noComp e = true) : swapsWith e t l E = pure false := by
  cases e <;> first | rfl | cases h
theorem sws_no {e t : Expr} {l : Nat} {E : PySem.Env} (h : noComp e = true) : swapsWithSole [t] e l E = pure false := sw_no (t := some t) h
theorem ss_setv (c : Fxt C k sc X Wx) {x : Str} {e : Expr} {px pos : Pos} {m : M W} (hn : noComp e = true) (he : SE X Wx env e m) :
    SS X Wx env (.Assign [.Name x px] e pos) (exprS m env fun w h => (match putL C.N sc x w env with | some e1 => .nx e1 h | none => .no)) := by
  intro F ρ h σ H D wd er p
  have p1 := p.expr (rel := rW X.K) er
  refine sems_of (ps_asg (tg := .Name x px) pe_sem pg_sem (sws_no hn) (by cases e <;> rfl) rfl) ?_
  refine he F ρ h σ H _ wd er (p1.mono fun v H1 ⟨F1, ρ1, h1, w, x1, wd1, r, p2⟩ => ?_)
  dsimp only at p2
  cases q : putL C.N sc x w env with
  | none => rw [q] at p2; exact p2.elim
  | some e1 =>
    rw [q] at p2
    exact (sg_put c q r (er.mono x1.sub x1.pre) fun σ' er' => p2 F1 ρ1 H1 σ' (.refl _ _ _) wd1 er').1
/-! what a comprehension is made of -/
theorem lc_parts {n : Nat} (c : Cxt C k sc X Wx) {el : Expr} {gens : List Comprehension} {cs : Scope} {pos : Pos} {F H : Hp} {ρ : List Addr} {h : Hs} {σ : L2.St} {Q : VK} (wd : Wd X.K F ρ h H) (er : EnvR X.K F ρ env σ)
    (p : Po (rW X.K) Wx X.K F ρ H σ (ev C n sc env (.ListComp el gens cs pos) h) Q) : ∃ tg it ifs own, gens = [⟨tg, it, ifs, 0⟩] ∧ blkC C.N sc cs own = true ∧ notSetE it = true ∧ ifs.length ≤ 1 ∧ tLc (tSemI X tg it) (tGb X cs tg) (tTs X cs ifs) (tEb X cs el) (own.map (·.2)) σ H Q := by
  cases n with
  | zero => exact p.elim
  | succ n =>
    have S := snd (C := C) (k := k) n
    unfold ev at p
    simp only at p
    cases hg : oneGen gens with
    | none => rw [hg] at p; exact p.elim
    | some t =>
      obtain ⟨tg, it, ifs⟩ := t
      rw [hg] at p
      simp only at p
      have hg := oneGen_ok hg
      cases ho : ownIx C.N cs.names with
      | none =>
        rw [ho] at p
        cases hb : blkC C.N sc cs ((none : Option (List (Str × Nat))).getD []) <;> (rw [hb] at p; exact p.elim)
      | some own =>
        rw [ho] at p
        cases hb : blkC C.N sc cs ((some own).getD []) with
        | false => rw [hb] at p; exact p.elim
        | true =>
          rw [hb] at p
          simp only at p
          cases h : notSetE it && decide (ifs.length ≤ 1) with
          | false => rw [h] at p; exact p.elim
          | true =>
            rw [h] at p
            simp only [Bool.and_eq_true, decide_eq_true_eq] at h
            refine ⟨tg, it, ifs, own, hg, hb, h.1, h.2, lc_tLc c hb ho (S.i env tg it c) (fun s H A cl fp e1 => S.e e1 el (c.blk (blkK hb))) (fun t ht s H A cl fp e1 => ?_) h.2 wd er p⟩
            match ifs, h.2, ht with
            | [t'], _, ht =>
              have : t = t' := by simpa using ht
              subst this
              exact S.t e1 t (c.blk (blkK hb))
theorem sw_lc {el : Expr} {gens : List Comprehension} {cs : Scope} {pos px : Pos} {x : Str} {l : Nat} {E : PySem.Env} : ∃ b : Bool, swapsWith (.ListComp el gens cs pos) (some (.Name x px)) l E = pure b ∧ (b = true → E.scope.names.lookup x = some .local) := by
  refine ⟨_, rfl, fun h => ?_⟩
  simp only [Bool.and_eq_true] at h
  have := h.1.1.2
  unfold Env.kindOf at this
  cases q : E.scope.names.lookup x with
  | none => rw [q] at this; cases this
  | some kk => rw [q] at this; cases kk <;> first | rfl | (cases this; done)
theorem nd_inj {α : Type} {l : List α} {i j : Nat} {x : α} (nd : l.Nodup) (hi : l[i]? = some x) (hj : l[j]? = some x) : i = j := by
  obtain ⟨h1, e1⟩ := List.getElem?_eq_some_iff.mp hi
  obtain ⟨h2, e2⟩ := List.getElem?_eq_some_iff.mp hj
  exact (List.getElem_inj nd).mp (e1.trans e2.symm)
theorem ss_setc (c : Fxt C k sc X Wx) {n i : Nat} {x : Str} {el : Expr} {gens : List Comprehension} {cs : Scope} {cpos px pos : Pos} (hx : loc sc x = true) (hi : ix x C.N = some i) :
    SS X Wx env (.Assign [.Name x px] (.ListComp el gens cs cpos) pos) (exprS (ev C n sc env (.ListComp el gens cs cpos)) env fun w h => (match putL C.N sc x w env with | some e1 => .nx e1 h | none => .no)) := by
  intro F ρ h σ H D wd er p
  have p1 := p.expr (rel := rW X.K) er
  have hi' : X.N[i]? = some x := by rw [c.N]; exact ix_get hi
  have nd : X.N.Nodup := by rw [c.N]; exact c.nd
  obtain ⟨tg, it, ifs, own, rfl, hb, hns, hl, q⟩ := lc_parts (Q := fun v H' => gName i v σ H' D.nx) c.toCxt wd er (p1.mono fun v H1 ⟨F1, ρ1, h1, w, x1, wd1, r, p2⟩ => by
    dsimp only at p2
    cases q : putL C.N sc x w env with
    | none => rw [q] at p2; exact p2.elim
    | some e1 =>
      rw [q] at p2
      obtain ⟨_, j, hj, g⟩ := sg_put (pos := px) (Q := D.nx) c q r (er.mono x1.sub x1.pre) fun σ' er' => p2 F1 ρ1 H1 σ' (.refl _ _ _) wd1 er'
      have : j = i := nd_inj nd hj hi'
      subst this
      exact g)
  obtain ⟨b, hsw, hloc⟩ := sw_lc (el := el) (gens := [⟨tg, it, ifs, 0⟩]) (cs := cs) (pos := cpos) (px := px) (x := x) (l := pos.line) (E := X.env)
  have ok := blkOk_by (N := X.N) (sc := X.env.scope) (by rw [c.N, c.scp]; exact hb)
  obtain ⟨h1, h2⟩ := c.st x hx
  cases b with
  | true => exact sems_of (ps_setLc (own := own) (g := tGb X cs tg) (tt := tTs X cs ifs) (te := tEb X cs el) c.calm nd hi' (hloc rfl) hsw pi_sem ok (fun s H A cl fp => ⟨fun pins s1 σ H1 v u Q I r h => h s H A cl fp pins s1 u I r⟩) (fun s H A cl fp => pts_of hl) (fun s H A cl fp => ⟨fun pins s1 σ H1 Q I h => h s H A cl fp pins s1 I⟩) (fun x => fsi _ hns _ _)) q
  | false => exact sems_of (ps_set (i := i) nd hi' h1 (pe_lc (own := own) (g := tGb X cs tg) (tt := tTs X cs ifs) (te := tEb X cs el) c.calm nd pi_sem ok (fun s H A cl fp => ⟨fun pins s1 σ H1 v u Q I r h => h s H A cl fp pins s1 u I r⟩) (fun s H A cl fp => pts_of hl) (fun s H A cl fp => ⟨fun pins s1 σ H1 Q I h => h s H A cl fp pins s1 I⟩) (fun x => fsi _ hns _ _)) hsw h2) q
end
end KR
/-! KR: statements, the rest. -/
namespace KR
open PySem PySem.Spec PyProof.Rows L2
section
variable {C : Cfg} {k : Nat} {sc : Scope} {X : Cx} {Wx : WX} {env : Env}
abbrev rU : Hp → List Addr → Unit → Unit → Prop := fun _ _ _ _ => True
/-! fields -/
theorem putN_ok {K : PySem.W.Frag} {F : Hp} {ρ : List Addr} {f : Str} {w : W} {y : V} (rw' : RepW K F ρ w y) : ∀ {ns : List Str} {ws : List W} {vs : List V}, RepWs K F ρ ws vs → ns.length = ws.length →
    ∃ vs', putF f y (ns.zip vs) = (putN f w ns ws).1.zip vs' ∧ RepWs K F ρ (putN f w ns ws).2 vs' ∧ (putN f w ns ws).1.length = (putN f w ns ws).2.length
  | [], [], _, r, _ => by
    have r : _ = [] := r
    subst r
    exact ⟨[y], rfl, ⟨y, [], rfl, rw', rfl⟩, rfl⟩
  | [], _ :: _, _, _, h => by cases h
  | _ :: _, [], _, _, h => by cases h
  | n :: ns, w0 :: ws, _, ⟨v, r, rfl, r1, r2⟩, h => by
    by_cases c : n = f
    · subst c
      refine ⟨y :: r, ?_, ?_, ?_⟩
      · simp [putN, putF]
      · simp only [putN, decide_true, if_true]
        exact ⟨y, r, rfl, rw', r2⟩
      · simpa [putN] using h
    · obtain ⟨vs', e1, e2, e3⟩ := putN_ok rw' (ns := ns) r2 (by simpa using h)
      refine ⟨v :: vs', ?_, ?_, ?_⟩
      · simp only [putN, decide_eq_false c, Bool.false_eq_true, if_false]
        show (if n = f then _ else _) = _
        rw [if_neg c]
        show _ = (n, v) :: ((putN f w ns ws).1.zip vs')
        rw [← e1]; rfl
      · simp only [putN, decide_eq_false c, Bool.false_eq_true, if_false]
        exact ⟨v, vs', rfl, r1, e2⟩
      · simpa [putN, c] using e3
theorem setF_ok (c : Cxt C k sc X Wx) {f : Str} {u w : W} {x y : V} {h : Hs} {F H : Hp} {ρ : List Addr} {σ : L2.St} {Q : Unit → Hp → Prop} (wd : Wd X.K F ρ h H) (r : RepW X.K F ρ u x) (rw' : RepW X.K F ρ w y) (p : Po rU Wx X.K F ρ H σ (setF C.G u f w h) Q) :
    ∃ a D dx fs, x = .ref a ∧ H a = some (.ins D dx fs) ∧ Cls X.K D ∧ NoAttr X.K D f ∧ fs.length < 1000 ∧ Q () (upd H a (.ins D dx (putF f y fs))) := by
  cases u with
  | d d => exact p.elim
  | r i =>
    obtain ⟨a, ea, rfl⟩ := r
    simp only [setF] at p
    cases eh : h[i]? with
    | none => rw [eh] at p; exact p.elim
    | some ob =>
      rw [eh] at p
      cases ob with
      | ins cn ns ws =>
        obtain ⟨a', o, e1, e2, dx, vs, rfl, rl, hl⟩ := wd.obs i _ eh
        rw [ea] at e1; cases e1
        simp only at p
        by_cases hc : (C.G.att cn f && decide (ns.length < 100)) = true
        · rw [if_pos hc] at p
          simp only [Bool.and_eq_true, decide_eq_true_eq] at hc
          obtain ⟨g1, g2⟩ := c.gl.att cn f hc.1
          obtain ⟨vs', q1, q2, q3⟩ := putN_ok rw' (f := f) rl hl
          refine ⟨a, _, dx, _, rfl, e2, g1, g2, ?_, ?_⟩
          · rw [List.length_zip]; omega
          · rw [q1]
            exact p F ρ _ () (.set ea _) (wd.set ea (b := .ins cn (putN f w ns ws).1 (putN f w ns ws).2) ⟨dx, vs', rfl, q2, q3⟩) trivial
        · rw [if_neg hc] at p; exact p.elim
      | _ => exact p.elim
theorem ss_fld (c : Fxt C k sc X Wx) {o e : Expr} {f : Str} {px pos : Pos} {m mo : M W} (hs : swapsWith e (some (.Attribute o f px)) pos.line X.env = pure false) (he : SE X Wx env e m) (ho : SE X Wx env o mo) :
    SS X Wx env (.Assign [.Attribute o f px] e pos) (exprS m env fun w => exprS (bnd mo fun u => setF C.G u f w) env fun _ h => .nx env h) := by
  intro F ρ h σ H D wd er p
  refine sems_of (ps_fld pe_sem pe_sem hs) ?_
  refine he F ρ h σ H _ wd er ((p.expr (rel := rW X.K) er).mono fun y H1 ⟨F1, ρ1, h1, w, x1, wd1, r, p1⟩ => ?_)
  have er1 := er.mono x1.sub x1.pre
  have p2 := p1.expr (rel := rU) er1
  refine ho F1 ρ1 h1 σ H1 _ wd1 er1 (p2.bnd.mono fun x H2 ⟨F2, ρ2, h2, u, x2, wd2, ru, p3⟩ => ?_)
  obtain ⟨a, Cc, dx, fs, q1, q2, q3, q4, q5, F3, ρ3, h3, _, x3, wd3, _, p4⟩ := setF_ok c.toCxt wd2 ru (RepW.mono x2.sub x2.pre r) p3
  exact ⟨a, Cc, dx, fs, q1, q2, q3, q4, q5, p4 F3 ρ3 _ σ (.refl _ _ _) wd3 (er1.mono x3.sub x3.pre)⟩
/-! a list laid for a name or a field -/
theorem se_lay (c : Cxt C k sc X Wx) {es : List Expr} {pos : Pos} {ms : M (List W)} (hs : SA X Wx env es ms) : SE X Wx env (.List es pos) (bnd ms layM) := by
  intro F ρ h σ H Q wd er p
  refine sem_of (pe_lst pa_sem) ?_
  refine hs F ρ h σ H _ wd er (p.bnd.mono fun vs H1 ⟨F1, ρ1, h1, a, x1, wd1, ra, p1⟩ => ?_)
  unfold layM at p1
  dsimp only at p1
  by_cases hl : lenOk a.length = true
  · rw [if_pos hl] at p1
    refine ⟨by rw [← ra.length]; exact lenOk_sz hl, fun q hq => ?_⟩
    refine p1 F1 (ρ1 ++ [q]) _ (.ref q) (.push wd1 hq _) (wd1.push hq (b := .lst a) ⟨vs, rfl, ra.mono (.refl _) (List.prefix_append _ _)⟩) ⟨q, ?_, rfl⟩
    rw [← wd1.len]
    exact List.getElem?_concat_length
  · rw [if_neg hl] at p1; exact p1.elim
/-! items -/
theorem setX_ok (c : Cxt C k sc X Wx) {u j w : W} {x y v : V} {h : Hs} {F H : Hp} {ρ : List Addr} {σ : L2.St} {Q : Unit → Hp → Prop} (wd : Wd X.K F ρ h H) (r : RepW X.K F ρ u x) (rj : RepW X.K F ρ j y) (rw' : RepW X.K F ρ w v) (p : Po rU Wx X.K F ρ H σ (setX u j w h) Q) :
    rSetL x y v H (Q ()) := by
  cases u with
  | d d => exact p.elim
  | r i =>
    cases j with
    | r i2 => exact p.elim
    | d jd =>
    obtain ⟨a, ea, rfl⟩ := r
    simp only [setX] at p
    cases eh : h[i]? with
    | none => rw [eh] at p; exact p.elim
    | some ob =>
      rw [eh] at p
      cases ob with
      | lst ws =>
        obtain ⟨a', o, e1, e2, vs, rfl, rl⟩ := wd.obs i _ eh
        rw [ea] at e1; cases e1
        simp only at p
        cases jd with
        | int n =>
          cases rj
          simp only at p
          cases en : nth (List.range ws.length) n with
          | none => rw [en] at p; exact p.elim
          | some jj =>
            rw [en] at p
            unfold nth L2.atI at en
            rw [List.length_range] at en
            cases ej : ixN ws.length n with
            | none => rw [ej] at en; cases en
            | some m =>
              rw [ej] at en
              have hm : m = jj := by
                have en : (List.range ws.length)[m]? = some jj := en
                have := List.getElem?_eq_some_iff.mp en
                obtain ⟨h1, h2⟩ := this
                simpa using h2
              subst hm
              refine ⟨a, vs, n, m, rfl, rfl, e2, by rw [← rl.length]; exact ej, ?_⟩
              exact p F ρ _ () (.set ea _) (wd.set ea (b := .lst (ws.set m w)) ⟨_, rfl, rl.set rw' m⟩) trivial
        | _ => exact p.elim
      | _ => exact p.elim
theorem ss_sub (c : Fxt C k sc X Wx) {o i e : Expr} {px pos : Pos} {m mo mi : M W} (hn : noComp e = true) (hi2 : notSlice i = true) (he : SE X Wx env e m) (ho : SE X Wx env o mo) (hi : SE X Wx env i mi) :
    SS X Wx env (.Assign [.Subscript o i px] e pos) (exprS m env fun w => exprS (bnd mo fun u => bnd mi fun j => setX u j w) env fun _ h => .nx env h) := by
  intro F ρ h σ H D wd er p
  refine sems_of (ps_asg (tg := .Subscript o i px) pe_sem (pg_sub pe_sem pe_sem set_list (by intro v; cases i <;> first | rfl | cases hi2)) (sws_no hn) (by cases e <;> rfl) rfl) ?_
  refine he F ρ h σ H _ wd er ((p.expr (rel := rW X.K) er).mono fun y H1 ⟨F1, ρ1, h1, w, x1, wd1, r, p1⟩ => ?_)
  have er1 := er.mono x1.sub x1.pre
  have p2 := p1.expr (rel := rU) er1
  refine ho F1 ρ1 h1 σ H1 _ wd1 er1 (p2.bnd.mono fun x H2 ⟨F2, ρ2, h2, u, x2, wd2, ru, p3⟩ => ?_)
  have er2 := er1.mono x2.sub x2.pre
  refine hi F2 ρ2 h2 σ H2 _ wd2 er2 (p3.bnd.mono fun z H3 ⟨F3, ρ3, h3, j, x3, wd3, rj, p4⟩ => ?_)
  obtain ⟨a, xs, kk, jj, z1, q1, q2, q3, F4, ρ4, h4, _, x4, wd4, _, p5⟩ := setX_ok c.toCxt wd3 (RepW.mono x3.sub x3.pre ru) rj (RepW.mono x3.sub x3.pre (RepW.mono x2.sub x2.pre r)) p4
  exact ⟨a, xs, kk, jj, z1, q1, q2, q3, p5 F4 ρ4 _ σ (.refl _ _ _) wd4 (er1.mono x4.sub x4.pre)⟩
/-! tuples -/
theorem ss_tup (c : Fxt C k sc X Wx) {ts : List Expr} {e : Expr} {kk n : Nat} {px pos : Pos} {m : M W} (hn : noComp e = true) (hw : swappedStores [.Tuple ts kk px] e X.env = pure none) (he : SE X Wx env e m) :
    SS X Wx env (.Assign [.Tuple ts kk px] e pos) (exprS m env fun w h => (match w with
        | .d (.tup ds) => (match putTs C.N sc n ts ds env with | some e1 => .nx e1 h | none => .no)
        | _ => .no)) := by
  intro F ρ h σ H D wd er p
  refine sems_of (ps_asg (tg := .Tuple ts kk px) pe_sem pg_sem (sws_no hn) hw rfl) ?_
  refine he F ρ h σ H _ wd er ((p.expr (rel := rW X.K) er).mono fun y H1 ⟨F1, ρ1, h1, w, x1, wd1, r, p1⟩ => ?_)
  have er1 := er.mono x1.sub x1.pre
  cases w with
  | r i => exact p1.elim
  | d d =>
    cases d with
    | tup ds =>
      dsimp only at p1
      cases q : putTs C.N sc n ts ds env with
      | none => rw [q] at p1; exact p1.elim
      | some e1 =>
        rw [q] at p1
        obtain ⟨a, vs, rfl, g, rl⟩ := r
        obtain ⟨h1', h2'⟩ := tgs_of (E := X.env) (putTs_form q)
        refine semG_of (pg_tup c.calm pgs_sem h1' h2') ⟨a, vs, rfl, (GT.mono wd1.sub g).t, by rw [← rl.length]; exact putTs_len q, ?_⟩
        exact sg_Ts c wd1.sub n q rl er1 fun σ' er' => p1 F1 ρ1 H1 σ' (.refl _ _ _) wd1 er'
    | _ => exact p1.elim
end
end KR
/-! KR: statements, swapped stores. -/
namespace KR
open PySem PySem.Spec PyProof.Rows L2
theorem swapN_eq {E : PySem.Env} {ts vs : List Expr} {k k2 : Nat} {p p2 : Pos} {r : Option (List Str)} (hk : E.blockKind = .function) (h : swapN E.scope ts vs = some r) : swappedStores [.Tuple ts k p] (.Tuple vs k2 p2) E = pure r := by
  have anyEq : ∀ F : Expr → Bool, (∀ x, F x = !notStar x) → vs.any F = vs.any (fun e => !notStar e) := fun F hF => by congr 1; funext x; exact hF x
  unfold swapN at h
  unfold swappedStores
  simp only [hk]
  rw [anyEq _ (by intro x; cases x <;> rfl)]
  by_cases c1 : (!(ts.length == 2 || ts.length == 3) || vs.length != ts.length) = true
  · rw [if_pos c1] at h
    cases h
    rw [if_pos (by rw [c1]; rfl)]
  rw [if_neg c1] at h
  have c1 : (!(ts.length == 2 || ts.length == 3) || vs.length != ts.length) = false := by simpa using c1
  rw [if_neg (by rw [c1]; decide)]
  by_cases c2 : (vs.any fun e => !notStar e) = true
  · rw [if_pos c2] at h
    cases h
    rw [if_pos c2]
  rw [if_neg c2] at h
  rw [if_neg c2]
  dsimp only at h
  generalize hn : (List.filterMap (fun t => match t with
      | .Name x p => if E.scope.names.lookup x == some NameKind.local && p.line == (ts.head?.map (·.pos.line)).getD 0 then some x else none
      | _ => none) ts) = names at h
  have fmEq : ∀ G : Expr → Option Str, (∀ x, G x = match x with
      | .Name x p => if E.scope.names.lookup x == some NameKind.local && p.line == (ts.head?.map (·.pos.line)).getD 0 then some x else none
      | _ => none) → List.filterMap G ts = names := fun G hG => by rw [← hn]; congr 1; funext x; exact hG x
  rw [fmEq _ (by intro x; cases x <;> rfl)]
  by_cases c3 : (names.length != ts.length || names.eraseDups.length != names.length) = true
  · rw [if_pos c3] at h
    cases h
    rw [if_pos c3]
  rw [if_neg c3] at h
  rw [if_neg c3]
  by_cases c4 : vs.all (foldedForSure 8) = true
  · rw [if_pos c4] at h
    cases h
    rw [if_pos c4]
  rw [if_neg c4] at h
  rw [if_neg c4]
  by_cases c5 : vs.all (constantsAlone 8) = true
  · rw [if_pos c5] at h
    cases h
  rw [if_neg c5] at h
  rw [if_neg c5]
  cases h
  rfl
theorem swapN_len {sc : Scope} {ts vs : List Expr} {names : List Str} (h : swapN sc ts vs = some (some names)) : (ts.length = 2 ∨ ts.length = 3) ∧ vs.length = ts.length ∧ vs.all notStar = true := by
  unfold swapN at h
  by_cases c1 : (!(ts.length == 2 || ts.length == 3) || vs.length != ts.length) = true
  · rw [if_pos c1] at h; cases h
  rw [if_neg c1] at h
  simp only [Bool.or_eq_true, Bool.not_eq_true', bne_iff_ne, ne_eq, not_or, Bool.not_eq_false, beq_iff_eq, Decidable.not_not] at c1
  by_cases c2 : (vs.any fun e => !notStar e) = true
  · rw [if_pos c2] at h; cases h
  refine ⟨c1.1, c1.2, ?_⟩
  simp only [List.any_eq_true, Bool.not_eq_true', not_exists, not_and, Bool.not_eq_false] at c2
  exact List.all_eq_true.mpr c2
theorem tsN_ok : ∀ {ts : List Expr} {names : List Str}, tsN ts = some names → ts.length = names.length ∧ ∀ (i : Nat) (x : Str), names[i]? = some x → ∃ p, ts[i]? = some (Expr.Name x p)
  | [], names, h => by cases h; exact ⟨rfl, fun i x (h : ([] : List Str)[i]? = some x) => by simp at h⟩
  | t :: ts, names, h => by
    cases t with
    | Name y p =>
      unfold tsN at h
      cases q : tsN ts with
      | none => rw [q] at h; cases h
      | some l =>
        rw [q] at h
        cases h
        obtain ⟨h1, h2⟩ := tsN_ok q
        refine ⟨by simp [h1], fun i x hx => ?_⟩
        cases i with
        | zero =>
          have : y = x := by simpa using hx
          subst this
          exact ⟨p, rfl⟩
        | succ i => simpa using h2 i x (by simpa using hx)
    | _ => simp [tsN] at h
section
variable {C : Cfg} {k : Nat} {sc : Scope} {X : Cx} {Wx : WX} {env : Env}
theorem ixs_ok {N : List Str} : ∀ {names : List Str} {is : List Nat}, ixs N names = some is → is.length = names.length ∧ ∀ (j : Nat) (x : Str), names[j]? = some x → ∃ i : Nat, is[j]? = some i ∧ ix x N = some i
  | [], is, h => by cases h; exact ⟨rfl, fun j x (h : ([] : List Str)[j]? = some x) => by simp at h⟩
  | y :: names, is, h => by
    unfold ixs at h
    cases q1 : ix y N with
    | none => rw [q1] at h; cases h
    | some i =>
      cases q2 : ixs N names with
      | none => rw [q1, q2] at h; cases h
      | some is' =>
        rw [q1, q2] at h
        cases h
        obtain ⟨h1, h2⟩ := ixs_ok q2
        refine ⟨by simp [h1], fun j x hx => ?_⟩
        cases j with
        | zero =>
          have : y = x := by simpa using hx
          subst this
          exact ⟨i, rfl, q1⟩
        | succ j => simpa using h2 j x (by simpa using hx)
theorem lcl {x : Str} (h : isLoc sc x = true) : sc.names.lookup x = some .local := by
  unfold isLoc at h
  split at h
  · assumption
  · cases h
theorem swsT {ts vs : List Expr} {k1 k2 : Nat} {p1 p2 : Pos} {l : Nat} {E : PySem.Env} : swapsWithSole [.Tuple ts k1 p1] (.Tuple vs k2 p2) l E = pure false := rfl
theorem ss_swap (c : Fxt C k sc X Wx) {ts vs : List Expr} {names : List Str} {is : List Nat} {k1 k2 : Nat} {p1 p2 pos : Pos} {ms : M (List W)} (hs : swapN sc ts vs = some (some names)) (hi : ixs C.N names = some is) (hc : (decide (tsN ts = some names) && (names.all (isLoc sc) && decide is.Nodup)) = true) (he : SA X Wx env vs ms) :
    SS X Wx env (.Assign [.Tuple ts k1 p1] (.Tuple vs k2 p2) pos) (exprS ms env fun ws h => (match decide (ws.length = is.length) with | true => .nx (setAll is ws env) h | false => .no)) := by
  intro F ρ h σ H D wd er p
  simp only [Bool.and_eq_true, decide_eq_true_eq, List.all_eq_true] at hc
  obtain ⟨ht, hl, hnd⟩ := hc
  obtain ⟨l1, l2, hst⟩ := swapN_len hs
  have hk : X.env.blockKind = .function := by unfold Env.blockKind; rw [c.scp, c.kind]; rfl
  have hw := swapN_eq (E := X.env) (k := k1) (k2 := k2) (p := p1) (p2 := p2) hk (by rw [c.scp]; exact hs)
  obtain ⟨t1, t2⟩ := tsN_ok ht
  obtain ⟨i1, i2⟩ := ixs_ok hi
  have p1 := (p.expr (rel := rWs X.K) er)
  have nd : X.N.Nodup := by rw [c.N]; exact c.nd
  rcases l1 with l1 | l1
  · obtain ⟨x, y, rfl⟩ : ∃ x y, names = [x, y] := by
      match names, (show names.length = 2 by omega) with
      | [x, y], _ => exact ⟨x, y, rfl⟩
    obtain ⟨px, e1⟩ := t2 0 x rfl
    obtain ⟨py, e2⟩ := t2 1 y rfl
    obtain ⟨a, b, rfl⟩ : ∃ a b, vs = [a, b] := by
      match vs, (show vs.length = 2 by omega) with
      | [a, b], _ => exact ⟨a, b, rfl⟩
    obtain ⟨i, e3, hi1⟩ := i2 0 x rfl
    obtain ⟨j, e4, hj1⟩ := i2 1 y rfl
    have hts : ts = [.Name x px, .Name y py] := by
      match ts, l1, e1, e2 with
      | [u, v], _, e1, e2 =>
        have e1 : u = Expr.Name x px := by simpa using e1
        have e2 : v = Expr.Name y py := by simpa using e2
        rw [e1, e2]
    have his : is = [i, j] := by
      match is, i1, e3, e4 with
      | [u, v], _, e3, e4 =>
        have e1 : u = i := by simpa using e3
        have e2 : v = j := by simpa using e4
        rw [e1, e2]
    subst hts his
    have hij : i ≠ j := by simpa using hnd
    have lx : X.env.scope.names.lookup x = some .local := by rw [c.scp]; exact lcl (hl x (by simp))
    have ly : X.env.scope.names.lookup y = some .local := by rw [c.scp]; exact lcl (hl y (by simp))
    refine sems_of (ps_par c.calm nd (by rw [c.N]; exact ix_get hi1) (by rw [c.N]; exact ix_get hj1) hij lx ly pa_sem hw rfl) ?_
    refine he F ρ h σ H _ wd er (p1.mono fun us H1 ⟨F1, ρ1, h1, ws, x1, wd1, r, p2⟩ => ?_)
    dsimp only at p2
    cases q : decide (ws.length = [i, j].length) with
    | false => rw [q] at p2; exact p2.elim
    | true =>
      rw [q] at p2
      have q := of_decide_eq_true q
      obtain ⟨w1, w2, rfl⟩ : ∃ w1 w2, ws = [w1, w2] := by
        match ws, q with
        | [a, b], _ => exact ⟨a, b, rfl⟩
      obtain ⟨v1, _, rfl, r1, v2, _, rfl, r2, rfl⟩ := r
      exact ⟨v1, v2, rfl, p2 F1 ρ1 H1 _ (.refl _ _ _) wd1 (((er.mono x1.sub x1.pre).set r1).set r2)⟩
  · obtain ⟨x, y, z, rfl⟩ : ∃ x y z, names = [x, y, z] := by
      match names, (show names.length = 3 by omega) with
      | [x, y, z], _ => exact ⟨x, y, z, rfl⟩
    obtain ⟨px, e1⟩ := t2 0 x rfl
    obtain ⟨py, e2⟩ := t2 1 y rfl
    obtain ⟨pz, e2'⟩ := t2 2 z rfl
    obtain ⟨a, b, d, rfl⟩ : ∃ a b d, vs = [a, b, d] := by
      match vs, (show vs.length = 3 by omega) with
      | [a, b, d], _ => exact ⟨a, b, d, rfl⟩
    obtain ⟨i, e3, hi1⟩ := i2 0 x rfl
    obtain ⟨j, e4, hj1⟩ := i2 1 y rfl
    obtain ⟨l, e5, hl1⟩ := i2 2 z rfl
    have hts : ts = [.Name x px, .Name y py, .Name z pz] := by
      match ts, l1, e1, e2, e2' with
      | [u, v, w], _, e1, e2, e3 =>
        have e1 : u = Expr.Name x px := by simpa using e1
        have e2 : v = Expr.Name y py := by simpa using e2
        have e3 : w = Expr.Name z pz := by simpa using e3
        rw [e1, e2, e3]
    have his : is = [i, j, l] := by
      match is, i1, e3, e4, e5 with
      | [u, v, w], _, e3, e4, e5 =>
        have e1 : u = i := by simpa using e3
        have e2 : v = j := by simpa using e4
        have e3 : w = l := by simpa using e5
        rw [e1, e2, e3]
    subst hts his
    simp only [List.nodup_cons, List.mem_cons, List.not_mem_nil, or_false, not_or, not_false_eq_true, List.nodup_nil, and_true] at hnd
    have lx : X.env.scope.names.lookup x = some .local := by rw [c.scp]; exact lcl (hl x (by simp))
    have ly : X.env.scope.names.lookup y = some .local := by rw [c.scp]; exact lcl (hl y (by simp))
    have lz : X.env.scope.names.lookup z = some .local := by rw [c.scp]; exact lcl (hl z (by simp))
    refine sems_of (ps_par3 c.calm nd (by rw [c.N]; exact ix_get hi1) (by rw [c.N]; exact ix_get hj1) (by rw [c.N]; exact ix_get hl1) hnd.1.1 hnd.1.2 hnd.2 lx ly lz pa_sem hw rfl) ?_
    refine he F ρ h σ H _ wd er (p1.mono fun us H1 ⟨F1, ρ1, h1, ws, x1, wd1, r, p2⟩ => ?_)
    dsimp only at p2
    cases q : decide (ws.length = [i, j, l].length) with
    | false => rw [q] at p2; exact p2.elim
    | true =>
      rw [q] at p2
      have q := of_decide_eq_true q
      obtain ⟨w1, w2, w3, rfl⟩ : ∃ w1 w2 w3, ws = [w1, w2, w3] := by
        match ws, q with
        | [a, b, c], _ => exact ⟨a, b, c, rfl⟩
      obtain ⟨v1, _, rfl, r1, v2, _, rfl, r2, v3, _, rfl, r3, rfl⟩ := r
      exact ⟨v1, v2, v3, rfl, p2 F1 ρ1 H1 _ (.refl _ _ _) wd1 ((((er.mono x1.sub x1.pre).set r1).set r2).set r3)⟩
end
end KR
/-! KR: statements that go round, raise, catch. -/
namespace KR
open PySem PySem.Spec PyProof.Rows L2
section
variable {C : Cfg} {k : Nat} {sc : Scope} {X : Cx} {Wx : WX} {env : Env}
theorem look_ok {N : List Str} {x : Str} {env : Env} {h h' : Hs} {w : W} (e : look N env x h = .ok w h') : ∃ i, ix x N = some i ∧ env[i]? = some (some w) ∧ h' = h := by
  unfold look at e
  cases q : ix x N with
  | none => rw [q] at e; cases e
  | some i =>
    rw [q] at e
    simp only [slot] at e
    cases q2 : env[i]? with
    | none => rw [q2] at e; cases e
    | some o =>
      cases o with
      | none => rw [q2] at e; cases e
      | some w' => rw [q2] at e; cases e; exact ⟨i, rfl, q2, rfl⟩
theorem look_ex {N : List Str} {x : Str} {env : Env} {h : Hs} : (∃ w, look N env x h = .ok w h) ∨ look N env x h = .no := by
  unfold look
  cases ix x N with
  | none => exact .inr rfl
  | some i =>
    simp only [slot]
    cases env[i]? with
    | none => exact .inr rfl
    | some o =>
      cases o with
      | none => exact .inr rfl
      | some w' => exact .inl ⟨w', rfl⟩
theorem aug_ip {op : Operator} {b : Bool} (h : augOp op = some b) : PIp X op (ipI (augF b)) := by
  cases op <;> first | (cases h; done) | (cases h; exact ip_add) | (cases h; exact ip_sub)
def rAug (b : Bool) : V → V → Hp → VK → Prop := fun x y H Q => ∃ i j, x = .int i ∧ y = .int j ∧ Q (.int (augF b i j)) H
theorem aug_in {op : Operator} {b : Bool} (h : augOp op = some b) : InOp X op (rAug b) := by
  cases op <;> first | (cases h; done) | (cases h; exact in_add) | (cases h; exact in_sub)
theorem augI_ok {γ δ : Type} {rel : Hp → List Addr → γ → δ → Prop} {m : M γ} {f : W → M γ} {b : Bool} {u w : W} {h : Hs} {F H : Hp} {ρ : List Addr} {σ : L2.St} {Q : δ → Hp → Prop} (p : Po rel Wx X.K F ρ H σ (bnd (augI b u w) f h) Q) :
    ∃ i j : Int, u = .d (.int i) ∧ w = .d (.int j) ∧ Po rel Wx X.K F ρ H σ (f (.d (.int (augF b i j))) h) Q := by
  unfold augI at p
  split at p
  · exact ⟨_, _, rfl, rfl, p⟩
  · exact p.elim
theorem augI_ok0 {b : Bool} {u w : W} {h : Hs} {F H : Hp} {ρ : List Addr} {σ : L2.St} {Q : VK} (p : Po (rW X.K) Wx X.K F ρ H σ (augI b u w h) Q) :
    ∃ i j : Int, u = .d (.int i) ∧ w = .d (.int j) ∧ Po (rW X.K) Wx X.K F ρ H σ ((ret (.d (.int (augF b i j))) : M W) h) Q := by
  unfold augI at p
  split at p
  · exact ⟨_, _, rfl, rfl, p⟩
  · exact p.elim
theorem ss_aug (c : Fxt C k sc X Wx) {x : Str} {e : Expr} {op : Operator} {b : Bool} {px pos : Pos} {m : M W} (hl : loc sc x = true) (ho : augOp op = some b) (he : SE X Wx env e m) :
    SS X Wx env (.AugAssign (.Name x px) op e pos) (exprS (bnd (look C.N env x) fun a => bnd m fun v => augI b a v) env fun w h => (match putL C.N sc x w env with | some e1 => .nx e1 h | none => .no)) := by
  intro F ρ h σ H D wd er p
  have p0 := p.expr (rel := rW X.K) er
  rcases look_ex (N := C.N) (x := x) (env := env) (h := h) with ⟨a, ea⟩ | ea
  · unfold KR.bnd at p0
    rw [ea] at p0
    have p0 : Po (rW X.K) Wx X.K F ρ H σ (bnd m (fun v => augI b a v) h) (At (rW X.K) X.K F ρ H fun w h1 F1 ρ1 H1 => PoS Wx X.K F1 ρ1 H1 D (match putL C.N sc x w env with | some e1 => .nx e1 h1 | none => .no)) := p0
    obtain ⟨i, hi, hv, _⟩ := look_ok ea
    obtain ⟨v, hσ, rv⟩ := er.2 i a hv
    have hx := c.st x hl
    have hi' : X.N[i]? = some x := by rw [c.N]; exact ix_get hi
    have nd : X.N.Nodup := by rw [c.N]; exact c.nd
    refine sems_of (ps_aug nd hi' hx.1 pe_sem (aug_ip ho) hx.2) ⟨v, hσ, ?_⟩
    refine he F ρ h σ H _ wd er (p0.bnd.mono fun y H1 ⟨F1, ρ1, h1, w, x1, wd1, r, p1⟩ => ?_)
    obtain ⟨ii, jj, rfl, rfl, p2⟩ := augI_ok0 p1
    cases rv; cases r
    refine ⟨ii, jj, rfl, rfl, ?_⟩
    obtain ⟨F2, ρ2, h2, w2, x2, wd2, r2, p3⟩ := p2 F1 ρ1 H1 (.int (augF b ii jj)) (.refl _ _ _) wd1 rfl
    cases q : putL C.N sc x w2 env with
    | none => rw [q] at p3; exact p3.elim
    | some e1 =>
      rw [q] at p3
      obtain ⟨_, j, hj, g⟩ := sg_put (pos := px) (Q := D.nx) c q r2 (er.mono x2.sub x2.pre) fun σ' er' => p3 F2 ρ2 H1 σ' (.refl _ _ _) wd2 er'
      have : j = i := nd_inj nd hj hi'
      subst this
      exact g
  · unfold KR.bnd at p0
    rw [ea] at p0
    exact p0.elim
theorem ss_augf (c : Fxt C k sc X Wx) {o : Expr} {f : Str} {op : Operator} {b : Bool} {n : Int} {j : Nat} {p2 px pos : Pos} {mo : M W} (ho : augOp op = some b) (hob : SE X Wx env o mo) :
    SS X Wx env (.AugAssign (.Attribute o f px) op (.Constant (.int n) j p2) pos) (exprS (bnd mo fun u => bnd (getF C.G u f) fun a => bnd (augI b a (.d (.int n))) fun w => setF C.G u f w) env fun _ h => .nx env h) := by
  intro F ρ h σ H D wd er p
  refine sems_of (ps_fldaug pe_sem pe_int (aug_in ho)) ?_
  have p0 := p.expr (rel := rU) er
  refine hob F ρ h σ H _ wd er (p0.bnd.mono fun x H1 ⟨F1, ρ1, h1, u, x1, wd1, ru, p1⟩ => ?_)
  obtain ⟨a, Cc, dx, fs, v, q1, q2, q3, q4, q5, F2, ρ2, h2, w, x2, wd2, rv, p2⟩ := getF_rd c.toCxt wd1 ru p1.bnd
  refine ⟨a, Cc, dx, fs, v, q1, q2, q3, q4, q5, ?_⟩
  obtain ⟨ii, jj, rfl, e2, p4⟩ := augI_ok (m := (bad : M Unit)) p2
  cases rv
  cases e2
  obtain ⟨a', Cc', dx', fs', z1, z2, z3, z4, z5, F4, ρ4, h4, _, x4, wd4, _, p5⟩ := setF_ok (y := .int (augF b ii n)) c.toCxt wd2 (RepW.mono x2.sub x2.pre ru) (show RepW X.K F2 ρ2 (.d (.int (augF b ii n))) _ from rfl) p4
  rw [q1] at z1
  cases z1
  rw [q2] at z2
  cases z2
  exact ⟨ii, n, rfl, rfl, dx, fs, q2, z5, p5 F4 ρ4 _ σ (.refl _ _ _) wd4 (er.mono x4.sub x4.pre)⟩
theorem ss_if (c : Fxt C k sc X Wx) {t : Expr} {a b : List Stmt} {pos : Pos} {mt : M Bool} {ma mb : MS} (ht : ST X Wx env t mt) (ha : SB X Wx env a ma) (hb : SB X Wx env b mb) :
    SS X Wx env (.If t a b pos) (exprS mt env fun c => (match c with | true => ma | false => mb)) := by
  intro F ρ h σ H D wd er p
  refine sems_of (ps_if pt_sem pss_sem pss_sem) ?_
  refine ht F ρ h σ H _ wd er ((p.expr (rel := rEq Bool) er).mono fun x H1 ⟨F1, ρ1, h1, b0, x1, wd1, ra, p1⟩ => ?_)
  cases ra
  cases x with
  | true => exact iteT (ha F1 ρ1 h1 σ H1 _ wd1 (er.mono x1.sub x1.pre) p1)
  | false => exact iteF (hb F1 ρ1 h1 σ H1 _ wd1 (er.mono x1.sub x1.pre) p1)
/-- a turn of a loop -/
theorem turn {F F1 H H1 : Hp} {ρ ρ1 : List Addr} {D : Ends} {N : L2.St → Hp → Prop} {go : Env → MS} {r : RS} (x : Ext F ρ H F1 ρ1 H1)
    (p : PoS Wx X.K F ρ H D (match r with | .nx e h' => go e h' | .ct e h' => go e h' | .bk e h' => .nx e h' | .rt w h' => .rt w h' | .ex c e h' => .ex c e h' | .no => .no))
    (hN : ∀ e h' F2 ρ2 H2 σ2, PoS Wx X.K F ρ H D (go e h') → Ext F1 ρ1 H1 F2 ρ2 H2 → Wd X.K F2 ρ2 h' H2 → EnvR X.K F2 ρ2 e σ2 → N σ2 H2) : PoS Wx X.K F1 ρ1 H1 { D with nx := N, ct := N, bk := D.nx } r := by
  cases r with
  | nx e h' => exact fun F2 ρ2 H2 σ2 x2 wd er => hN e h' F2 ρ2 H2 σ2 p x2 wd er
  | ct e h' => exact fun F2 ρ2 H2 σ2 x2 wd er => hN e h' F2 ρ2 H2 σ2 p x2 wd er
  | bk e h' => exact fun F2 ρ2 H2 σ2 x2 wd er => p F2 ρ2 H2 σ2 (x.trans x2) wd er
  | rt w h' => exact fun F2 ρ2 H2 v x2 wd er => p F2 ρ2 H2 v (x.trans x2) wd er
  | ex cn e h' => exact fun F2 ρ2 H2 d σ2 x2 wd er => p F2 ρ2 H2 d σ2 (x.trans x2) wd er
  | no => exact p
theorem ss_while (c : Fxt C k sc X Wx) {t : Expr} {b : List Stmt} {pos : Pos} {mt : Env → M Bool} {mb : Env → MS} {n : Nat} (ht : ∀ e, ST X Wx e t (mt e)) (hb : ∀ e, SB X Wx e b (mb e)) : SS X Wx env (.While t b [] pos) (whileM mt mb n env) := by
  intro F ρ h σ H D wd er p
  refine sems_of (ps_while c.own pt_sem pss_sem) ⟨fun m σ1 H1 => ∃ F1 ρ1 h1 e, Ext F ρ H F1 ρ1 H1 ∧ Wd X.K F1 ρ1 h1 H1 ∧ EnvR X.K F1 ρ1 e σ1 ∧ PoS Wx X.K F ρ H D (whileM mt mb m e h1), ⟨n, F, ρ, h, env, .refl _ _ _, wd, er, p⟩, ?_⟩
  rintro m σ1 H1 ⟨F1, ρ1, h1, e, x1, wd1, er1, p1⟩
  cases m with
  | zero => exact p1.elim
  | succ m =>
    simp only [whileM] at p1
    refine ht e F1 ρ1 h1 σ1 H1 _ wd1 er1 ?_
    cases et : mt e h1 with
    | no => rw [et] at p1; exact p1.elim
    | ex cn h2 =>
      rw [et] at p1
      exact fun F2 ρ2 H2 d x2 wd2 => p1 F2 ρ2 H2 d σ1 (x1.trans x2) wd2 (er1.mono x2.sub x2.pre)
    | ok bb h2 =>
      rw [et] at p1
      rintro F2 ρ2 H2 _ x2 wd2 rfl
      have er2 := er1.mono x2.sub x2.pre
      cases bb with
      | false => exact iteF (p1 F2 ρ2 H2 σ1 (x1.trans x2) wd2 er2)
      | true =>
        refine iteT ⟨fun σ' H' => ∃ F3 ρ3 h3 e3, Ext F ρ H F3 ρ3 H' ∧ Wd X.K F3 ρ3 h3 H' ∧ EnvR X.K F3 ρ3 e3 σ' ∧ PoS Wx X.K F ρ H D (whileM mt mb m e3 h3), fun σ' H' w => ⟨m, Nat.lt_succ_self m, w⟩, ?_⟩
        refine hb e F2 ρ2 h2 σ1 H2 _ wd2 er2 (turn (go := whileM mt mb m) (x1.trans x2) p1 fun e3 h3 F3 ρ3 H3 σ3 p3 x3 wd3 er3 => ⟨F3, ρ3, h3, e3, (x1.trans x2).trans x3, wd3, er3, p3⟩)
theorem ss_for (c : Fxt C k sc X Wx) {tg it : Expr} {b : List Stmt} {pos : Pos} {mi : M (List Y)} {mb : Env → MS} {n : Nat} (hs : notSetE it = true) (hi : SI X Wx env tg it mi) (hb : ∀ e, SB X Wx e b (mb e)) :
    SS X Wx env (.For tg it b [] pos) (exprS mi env fun ys => forM mb (bindY C.N (loc sc) n tg) ys env) := by
  intro F ρ h σ H D wd er p
  refine sems_of (ps_for c.own c.calm pi_sem pg_sem pss_sem (fun x => fsi _ hs _ _)) ?_
  refine hi F ρ h σ H _ wd er ((p.expr (rel := rY X.K) er).mono fun J H1 ⟨F1, ρ1, h1, ys, x1, wd1, wy, p1⟩ => ?_)
  refine for_it (g := tSemG X tg) (tb := sSems X b) wy (Pv := fun i σ2 H2 => ∃ F2 ρ2 h2 e, Ext F1 ρ1 H1 F2 ρ2 H2 ∧ Wd X.K F2 ρ2 h2 H2 ∧ EnvR X.K F2 ρ2 e σ2 ∧ PoS Wx X.K F1 ρ1 H1 D (forM mb (bindY C.N (loc sc) n tg) (ys.drop i) e h2)) ⟨F1, ρ1, h1, env, .refl _ _ _, wd1, er.mono x1.sub x1.pre, p1⟩ ?_ ?_ ?_
  · rintro i σ2 H2 _ ⟨F2, ρ2, h2, e, x2, wd2, _, _⟩
    exact x2.sub.trans wd2.sub
  · rintro i x σ2 H2 H3 hi ⟨F2, ρ2, h2, e, x2, wd2, er2, p2⟩ ⟨y, hy, yr⟩
    have hd : ys.drop i = y :: ys.drop (i + 1) := by
      obtain ⟨hlt, e⟩ := List.getElem?_eq_some_iff.mp hy
      rw [← e]; exact List.drop_eq_getElem_cons hlt
    rw [hd] at p2
    simp only [forM] at p2
    cases eb : bindY C.N (loc sc) n tg y e with
    | none => rw [eb] at p2; exact p2.elim
    | some e1 =>
      rw [eb] at p2
      refine sg_bind c.calm c.N c.nd c.st (vs := List.range C.N.length) (fun x i _ hx => List.mem_range.mpr (ix_lt hx)) x2.sub wd2 eb yr er2 fun F3 σ3 x3 wd3 er3 _ => ?_
      exact hb e1 F3 ρ2 h2 σ3 H3 _ wd3 er3 (turn (go := forM mb (bindY C.N (loc sc) n tg) (ys.drop (i + 1))) (x2.trans x3) p2 fun e4 h4 F4 ρ4 H4 σ4 p4 x4 wd4 er4 => ⟨F4, ρ4, h4, e4, (x2.trans x3).trans x4, wd4, er4, p4⟩)
  · rintro σ2 H2 ⟨F2, ρ2, h2, e, x2, wd2, er2, p2⟩
    have hd : ys.drop ys.length = [] := List.drop_length
    rw [hd] at p2
    exact p2 F2 ρ2 H2 σ2 x2 wd2 er2
theorem ss_raise (c : Fxt C k sc X Wx) {x m : Str} {j : Nat} {p1 p2 p3 pos : Pos} (hg : glo sc x = true) (he : C.G.exc x = true) : SS X Wx env (.Raise (some (.Call (.Name x p1) [.Constant (.str m) j p2] [] p3)) none pos) (fun h => .ex x env h) := by
  intro F ρ h σ H D wd er p
  obtain ⟨g1, g2, g3, g4, g5⟩ := c.gl.exc x he
  refine sems_of (ps_raise c.calm c.tk (pmk_own PySem.F.excBase_ValueError g5 g1 g4 (raises_own g2 g3) (c.glo hg) (okName1 (Bool.and_eq_true_iff.mp hg).1).1)) ?_
  exact p F ρ H none σ (.refl _ _ _) wd er
/-! blocks -/
theorem sb_nil : SB X Wx env [] (fun h => .nx env h) := by
  intro F ρ h σ H D wd er p
  exact semss_of pss_nil (p F ρ H σ (.refl _ _ _) wd er)
theorem sb_one {s : Stmt} {m : MS} (hs : SS X Wx env s m) : SB X Wx env [s] m := fun F ρ h σ H D wd er p => semss_of (pss_one ps_sem) (hs F ρ h σ H D wd er p)
theorem sb_cons {s : Stmt} {r : List Stmt} {m : MS} {mr : Env → MS} (hs : SS X Wx env s m) (hr : ∀ e, SB X Wx e r (mr e)) : SB X Wx env (s :: r) (seqS m mr) := by
  intro F ρ h σ H D wd er p
  refine semss_of (pss_cons ps_sem pss_sem) (hs F ρ h σ H _ wd er ?_)
  unfold seqS at p
  cases e : m h with
  | nx e1 h1 => rw [e] at p; exact fun F1 ρ1 H1 σ1 x1 wd1 er1 => hr e1 F1 ρ1 h1 σ1 H1 D wd1 er1 (p.ext x1)
  | rt w h1 => rw [e] at p; exact p
  | bk e1 h1 => rw [e] at p; exact p
  | ct e1 h1 => rw [e] at p; exact p
  | ex cn e1 h1 => rw [e] at p; exact p
  | no => rw [e] at p; exact p
end
end KR
/-! KR: try; all statements. -/
namespace KR
open PySem PySem.Spec PyProof.Rows L2
section
variable {C : Cfg} {k : Nat} {sc : Scope} {X : Cx} {Wx : WX} {env : Env}
theorem const_pe {X : Cx} {cn : Const} {j : Nat} {pos : Pos} {d : D} (e : constD cn = some d) : ∃ v, PE X (.Constant cn j pos) (fun _ H Q => Q v H) ∧ ∀ F, Rep X.K F d v := by
  cases cn with
  | none => cases e; exact ⟨_, pe_non, fun _ => rfl⟩
  | bool b => cases e; exact ⟨_, pe_bl, fun _ => rfl⟩
  | int i => cases e; exact ⟨_, pe_int, fun _ => rfl⟩
  | str s =>
    simp only [constD] at e
    split at e
    · rename_i ok
      cases e
      exact ⟨_, pe_str, fun _ => ⟨congrArg V.str (St_of (z := s) rfl), ok⟩⟩
    · cases e
  | _ => cases e
/-- a clause's suite -/
theorem suite_ok {X' : Cx} (hN : X'.N = C.N) (nd : C.N.Nodup) (st : StOk X' (loc sc)) {F H : Hp} {ρ : List Addr} {D : Ends} : ∀ {bs : List Stmt} {e e1 : Env} {σ : L2.St}, suite C.N sc bs e = some e1 → EnvR X'.K F ρ e σ → (∀ σ', EnvR X'.K F ρ e1 σ' → D.nx σ' H) → sSems X' bs D σ H
  | [], e, e1, σ, h, er, q => by
    have h : e = e1 := by simpa [suite] using h
    subst h
    exact semss_of pss_nil (q σ er)
  | s :: bs, e, e1, σ, h, er, q => by
    unfold suite at h
    split at h
    · rename_i hh; cases hh
    · rename_i e _ _ x px cn j pc pos r hh
      cases hh
      cases ed : constD cn with
      | none => rw [ed] at h; cases h
      | some d =>
        rw [ed] at h
        simp only at h
        cases ep : putL C.N sc x (.d d) e with
        | none => rw [ep] at h; cases h
        | some e2 =>
          rw [ep] at h
          simp only at h
          obtain ⟨v, pe, rv⟩ := const_pe (X := X') (j := j) (pos := pc) ed
          unfold putL at ep
          cases hl : loc sc x with
          | false => rw [hl] at ep; cases ep
          | true =>
            rw [hl] at ep
            cases hi : ix x C.N with
            | none => rw [hi] at ep; cases ep
            | some i =>
              rw [hi] at ep
              have ep : e.set i (some (.d d)) = e2 := by simpa using ep
              subst ep
              obtain ⟨l1, l2⟩ := st x hl
              refine semss_of (pss_cons (ps_set (i := i) (by rw [hN]; exact nd) (by rw [hN]; exact ix_get hi) l1 pe rfl l2) pss_sem) ?_
              exact suite_ok hN nd st h (er.set (w := .d d) (rv F)) q
    · cases h
abbrev Hd := Value × (Addr → Value → Option Addr → TS)
def hdl (X : Cx) : List ExceptHandler → List Hd
  | [] => []
  | .ExceptHandler (some (.Name x _)) _ su _ :: r => (.ref (He.ga X.K x), fun a _ _ D σ H => ∀ oe pn, sSems (X.suite a ((a, oe) :: pn)) su D σ H) :: hdl X r
  | _ :: r => hdl X r
theorem hds_ok (c : Fxt C k sc X Wx) : ∀ {hs : List ExceptHandler}, hs.all (okH C sc) = true → HdsOk X hs (hdl X hs)
  | [], _ => .nil
  | h :: hs, ha => by
    obtain ⟨h1, h2⟩ := Bool.and_eq_true_iff.mp (show (okH C sc h && hs.all (okH C sc)) = true from ha)
    unfold okH at h1
    split at h1
    · rename_i x np b bs pos
      obtain ⟨g, ex⟩ := Bool.and_eq_true_iff.mp h1
      obtain ⟨g1, g2, g3, g4, g5⟩ := c.gl.exc x ex
      exact .cons ⟨c.glo g, (okName1 (Bool.and_eq_true_iff.mp g).1).1, .inl g1⟩ (fun a oe cls d pn _ _ => ⟨fun pins s σ H D I h => h oe pn pins s I⟩) (hds_ok c h2)
    · cases h1
theorem many_ok (c : Fxt C k sc X Wx) {F H : Hp} {ρ : List Addr} {h' : Hs} {D : Ends} {cn : Str} {e : Env} {σ : L2.St} {d : Option Addr} (wd : Wd X.K F ρ h' H) (er : EnvR X.K F ρ e σ) : ∀ {hs : List ExceptHandler}, hs.all (okH C sc) = true →
    PoS Wx X.K F ρ H D (match clause C sc cn e hs with | some (some e1) => .nx e1 h' | some none => .ex cn e h' | none => .no) → wMany X.K Wx D (hdl X hs) (.ref (He.ga X.K cn)) d σ H
  | [], _, p => p F ρ H d σ (.refl _ _ _) wd er
  | h :: hs, ha, p => by
    obtain ⟨h1, h2⟩ := Bool.and_eq_true_iff.mp (show (okH C sc h && hs.all (okH C sc)) = true from ha)
    unfold okH at h1
    split at h1
    · rename_i x np b bs pos
      unfold clause at p
      cases hc : glo sc x && (C.G.exc x && C.G.exc cn) with
      | false => rw [hc] at p; exact p.elim
      | true =>
        rw [hc] at p
        simp only at p
        simp only [Bool.and_eq_true] at hc
        refine ⟨C.G.sub cn x, c.gl.exm cn x hc.2.2 hc.2.1, fun q a ha oe pn => ?_, fun q => ?_⟩
        · rw [q] at p
          simp only at p
          cases es : suite C.N sc (b :: bs) e with
          | none => rw [es] at p; exact p.elim
          | some e1 =>
            rw [es] at p
            exact suite_ok (X' := X.suite a ((a, oe) :: pn)) c.N c.nd (fun x hx => c.st x hx) es er fun σ' er' => p F ρ H σ' (.refl _ _ _) wd er'
        · rw [q] at p
          exact many_ok c wd er h2 p
    · cases h1
theorem Fxt.tr (c : Fxt C k sc X Wx) {W : WX} {pn : List (Addr × Obj)} {xe : Value → Shared → Prop} (tk : Takes (X.tr pn xe) W) (po : PassesOwn (model X.prog X.w) X.A X.env xe) : Fxt C k sc (X.tr pn xe) W :=
  ⟨⟨c.gl, c.N, c.nd, c.scp, c.kind, c.calm, c.room, tk⟩, c.fnT, po, c.stk, c.fr⟩
theorem ss_try (c : Fxt C k sc X Wx) {b : List Stmt} {h0 : ExceptHandler} {hs : List ExceptHandler} {pos : Pos} {mb : MS} (ha : (h0 :: hs).all (okH C sc) = true) (hb : ∀ {X' : Cx} {W' : WX}, Fxt C k sc X' W' → SB X' W' env b mb) : SS X Wx env (.Try b (h0 :: hs) [] [] pos) (tryM C sc (h0 :: hs) mb) := by
  intro F ρ h σ H D wd er p
  refine sems_of (ps_try_many (tb := fun W D σ H => ∀ pn xe, Takes (X.tr pn xe) W → PassesOwn (model X.prog X.w) X.A X.env xe → sSems (X.tr pn xe) b D σ H) c.stk c.fr c.tk (fun W pn xe tk po => ⟨fun pins s σ H D I h => h pn xe tk po pins s I⟩) (hds_ok c ha)) ?_
  intro pn xe tk po
  refine hb (c.tr tk po) F ρ h σ H D wd er ?_
  unfold tryM at p
  cases e : mb h with
  | nx e1 h1 => rw [e] at p; exact p
  | rt w h1 => rw [e] at p; exact p
  | bk e1 h1 => rw [e] at p; exact p
  | ct e1 h1 => rw [e] at p; exact p
  | ex cn e1 h1 =>
    rw [e] at p
    exact fun F1 ρ1 H1 d σ1 x1 wd1 er1 => many_ok c wd1 er1 ha (p.ext x1)
  | no => rw [e] at p; exact p
structure SndS (C : Cfg) (k n : Nat) : Prop where
  s : ∀ {m : Nat} {sc : Scope} {X : Cx} {Wx : WX} {q : Str} (env : Env) (st : Stmt), Fxt C k sc X Wx → SS X Wx env st (ex C n m sc q env st)
  b : ∀ {m : Nat} {sc : Scope} {X : Cx} {Wx : WX} {q : Str} (env : Env) (st : List Stmt), Fxt C k sc X Wx → SB X Wx env st (exB C n m sc q env st)
theorem listEs_ok {b : Bool} {e : Expr} {es : List Expr} (h : listEs b e = some es) : ∃ p, e = .List es p := by
  unfold listEs at h
  split at h
  · cases h; exact ⟨_, rfl⟩
  · cases h
theorem isLC_ok {e : Expr} (h : isLC e = true) : ∃ el gens cs p, e = .ListComp el gens cs p := by
  cases e <;> first | exact ⟨_, _, _, _, rfl⟩ | cases h
theorem tup_ss {ts : List Expr} {kk : Nat} {px : Pos} {e : Expr} {E : PySem.Env} (hne : ∀ (vs : List Expr) (k2 : Nat) (p2 : Pos), e = .Tuple vs k2 p2 → False) : swappedStores [.Tuple ts kk px] e E = pure none := by
  cases e <;> first | rfl | exact (hne _ _ _ rfl).elim
theorem ss_expr (c : Fxt C k sc X Wx) {e : Expr} {pos : Pos} {m : M W} (hn : noComp e = true) (he : SE X Wx env e m) : SS X Wx env (.Expr e pos) (exprS m env fun _ h => .nx env h) := by
  intro F ρ h σ H D wd er p
  refine sems_of (ps_expr pe_sem (sw_no hn)) ?_
  refine he F ρ h σ H _ wd er ((p.expr (rel := rW X.K) er).mono fun v H1 ⟨F1, ρ1, h1, w, x1, wd1, r, p2⟩ => ?_)
  exact p2 F1 ρ1 H1 σ (.refl _ _ _) wd1 (er.mono x1.sub x1.pre)
theorem ss_ret (c : Fxt C k sc X Wx) {e : Expr} {pos : Pos} {m : M W} (he : SE X Wx env e m) : SS X Wx env (.Return (some e) pos) (exprS m env fun w h => .rt w h) := by
  intro F ρ h σ H D wd er p
  refine sems_of (ps_ret pe_sem) ?_
  refine he F ρ h σ H _ wd er ((p.expr (rel := rW X.K) er).mono fun v H1 ⟨F1, ρ1, h1, w, x1, wd1, r, p2⟩ => ?_)
  exact p2 F1 ρ1 H1 v (.refl _ _ _) wd1 r
theorem ss_retN {pos : Pos} : SS X Wx env (.Return none pos) (fun h => .rt (.d .non) h) := fun F ρ h σ H D wd er p => sems_of ps_retN (p F ρ H _ (.refl _ _ _) wd rfl)
theorem ss_pass {pos : Pos} : SS X Wx env (.Pass pos) (fun h => .nx env h) := fun F ρ h σ H D wd er p => sems_of ps_pass (p F ρ H σ (.refl _ _ _) wd er)
theorem ss_break {pos : Pos} : SS X Wx env (.Break pos) (fun h => .bk env h) := fun F ρ h σ H D wd er p => sems_of ps_break (p F ρ H σ (.refl _ _ _) wd er)
theorem ss_cont {pos : Pos} : SS X Wx env (.Continue pos) (fun h => .ct env h) := fun F ρ h σ H D wd er p => sems_of ps_continue (p F ρ H σ (.refl _ _ _) wd er)
theorem snds_b {n m : Nat} {q : Str} (S : SndS C k n) (c : Fxt C k sc X Wx) (st : List Stmt) : SB X Wx env st (exB C (n + 1) m sc q env st) := by
  match st with
  | [] => exact sb_nil
  | [s] => exact sb_one (S.s env s c)
  | s :: t :: r => exact sb_cons (S.s env s c) fun e => S.b e (t :: r) c
theorem snds_s {n m : Nat} {q : Str} (S : SndS C k n) (c : Fxt C k sc X Wx) (st : Stmt) : SS X Wx env st (ex C (n + 1) m sc q env st) := by
  have E := snd (C := C) (k := k) m
  have ee : ∀ env e, SE X Wx env e (ev C m sc env e) := fun env e => E.e env e c.toCxt
  unfold ex
  split
  · exact ss_pass
  · exact ss_break
  · exact ss_cont
  · exact ss_retN
  · exact ss_ret c (ee _ _)
  · split
    · rename_i h; exact ss_expr c h (ee _ _)
    · exact ss_no
  · split
    · rename_i h
      obtain ⟨p, rfl⟩ := listEs_ok h
      exact ss_setv c rfl (se_lay c.toCxt (E.l env _ c.toCxt))
    · split
      · rename_i h
        rcases Bool.or_eq_true_iff.mp h with h | h
        · exact ss_setv c h (ee _ _)
        · simp only [Bool.and_eq_true] at h
          obtain ⟨h1, h2, h3⟩ := h
          obtain ⟨i, hi⟩ := Option.isSome_iff_exists.mp h3
          obtain ⟨el, gens, cs, cpos, rfl⟩ := isLC_ok h1
          exact ss_setc c h2 hi
      · exact ss_no
  · split
    · rename_i h
      obtain ⟨p, rfl⟩ := listEs_ok h
      exact ss_fld c (sw_no rfl) (se_lay c.toCxt (E.l env _ c.toCxt)) (ee _ _)
    · split
      · rename_i h; exact ss_fld c (sw_no h) (ee _ _) (ee _ _)
      · exact ss_no
  · split
    · rename_i h
      simp only [Bool.and_eq_true] at h
      exact ss_sub c h.1 h.2 (ee _ _) (ee _ _) (ee _ _)
    · exact ss_no
  · split
    · exact ss_no
    · rename_i hs
      split
      · rename_i hi
        split
        · rename_i h; exact ss_swap c hs hi h (E.l env _ c.toCxt)
        · exact ss_no
      · exact ss_no
    · rename_i hs
      have hk : X.env.blockKind = .function := by unfold Env.blockKind; rw [c.scp, c.kind]; rfl
      exact ss_tup c rfl (swapN_eq hk (by rw [c.scp]; exact hs)) (ee _ _)
  · rename_i hne
    split
    · rename_i h
      exact ss_tup c h (tup_ss hne) (ee _ _)
    · exact ss_no
  · split
    · rename_i h1 h2; exact ss_aug c h1 h2 (ee _ _)
    · exact ss_no
  · split
    · rename_i h; exact ss_augf c h (ee _ _)
    · exact ss_no
  · exact ss_if c (E.t env _ c.toCxt) (S.b env _ c) (S.b env _ c)
  · exact ss_while c (fun e => E.t e _ c.toCxt) (fun e => S.b e _ c)
  · split
    · exact ss_no
    · rename_i h; exact ss_for c h (E.i env _ _ c.toCxt) (fun e => S.b e _ c)
  · split
    · rename_i h
      simp only [Bool.and_eq_true] at h
      exact ss_raise c h.1 h.2
    · exact ss_no
  · split
    · rename_i h; exact ss_try c h fun c' => S.b env _ c'
    · exact ss_no
  · exact ss_no
theorem snds : ∀ n, SndS C k n
  | 0 => ⟨fun _ _ _ => ss_no, fun _ _ _ => sb_no⟩
  | n + 1 => have S := snds n; ⟨fun env st c => snds_s S c st, fun env st c => snds_b S c st⟩
end
end KR
/-! KR: defs. -/
namespace KR
open PySem PySem.Spec PyProof.Rows L2
section
variable {K : PySem.W.Frag} {F : Hp} {ρ : List Addr}
theorem RepWs.getR : ∀ {ws : List W} {vs : List V} {i : Nat} {w : W}, RepWs K F ρ ws vs → ws[i]? = some w → ∃ v, vs[i]? = some v ∧ RepW K F ρ w v := fun r e => RepWs.get r e
theorem start_ok {N : List Str} {ws : List W} {vs : List V} (r : RepWs K F ρ ws vs) : EnvR K F ρ (startE N ws) (L2.start N vs) := by
  have hl := r.length
  unfold startE L2.start
  refine ⟨by simp [hl], fun i w e => ?_⟩
  by_cases hi : i < ws.length
  · rw [List.getElem?_append_left (by simpa using hi), List.getElem?_map] at e
    cases q : ws[i]? with
    | none => rw [q] at e; cases e
    | some w' =>
      rw [q] at e
      have e : w' = w := by simpa using e
      subst e
      obtain ⟨v, h1, h2⟩ := r.get q
      refine ⟨v, ?_, h2⟩
      rw [List.getElem?_append_left (by simpa [← hl] using hi), List.getElem?_map, h1]
      rfl
  · rw [List.getElem?_append_right (by simpa using hi), List.getElem?_replicate] at e
    split at e <;> cases e
end
section
variable {G : Gam} {k : Nat} {P : Program} {w : World} {K : PySem.W.Frag} {mg : Str → Option Value} {base : Heap}
theorem fn_ok (gl : Glob G (call G k) k P w K mg base) {q x qual : Str} {params : Arguments} {I : FnI} {f : Addr} {fd : FuncData} (hq : G.fn q = some I) (F : FunD K x qual params I.body I.sc [] [] f fd) (S : FnScope I.N I.ps I.sc) :
    FnOk P w K mg base (L2.CX P w) (2 * (k + 1) + 1) f fd I.ps (spR K (call G (k + 1)) q I.ps.length) := by
  refine F.ok (k := 2 * k + 2) S (fun vs H Q E h => h.1) fun cdv A outer s H vs Q E hr hsp => ?_
  obtain ⟨hl, F0, ρ, h, ws, wd, rw', m⟩ := hsp
  have fx : Fxt ⟨G, call G k, I.N⟩ k I.sc (cxOf (L2.CX P w) P w K mg base I.N qual I.sc f cdv A outer s H E) (fun cls d _ H => E cls d H) :=
    ⟨⟨gl, rfl, S.nd, rfl, S.kind, rfl, hr, takes_of rfl rfl rfl rfl⟩, fun _ _ => .inl rfl, passes_of rfl, rfl, rfl⟩
  refine ⟨_, pss_sem, (snds (C := ⟨G, call G k, I.N⟩) (k := k) 60).b (m := 60) (q := I.qual) (startE I.N ws) I.body fx F0 ρ h (L2.start I.N vs) H _ wd (start_ok rw') ?_⟩
  have e0 : call G (k + 1) q ws h = run G (call G k) I ws h := by
    show (match G.fn q with | some I => run G (call G k) I ws | none => fun _ => .no) h = _
    rw [hq]
  rw [e0] at m
  unfold run at m
  have e1 : decide (ws.length = I.ps.length) = true := decide_eq_true (by rw [rw'.length]; exact hl)
  rw [e1] at m
  cases e : exB ⟨G, call G k, I.N⟩ 60 60 I.sc I.qual (startE I.N ws) I.body h with
  | nx e1 h1 => rw [e] at m; exact fun F1 ρ1 H1 σ1 x1 wd1 er1 => m F1 ρ1 H1 _ x1 wd1 rfl
  | rt w1 h1 => rw [e] at m; exact m
  | bk e1 h1 => rw [e] at m; exact m.elim
  | ct e1 h1 => rw [e] at m; exact m.elim
  | ex cn e1 h1 => rw [e] at m; exact fun F1 ρ1 H1 d σ1 x1 wd1 er1 => m F1 ρ1 H1 d x1 wd1
  | no => rw [e] at m; exact m.elim
/-- what is known of the top, whatever the depth -/
structure Top (G : Gam) (K : PySem.W.Frag) (mg : Str → Option Value) : Prop where
  sc : ∀ q I, G.fn q = some I → FnScope I.N I.ps I.sc
  glb : ∀ x I, G.fn x = some I → G.glb x = true → mg x = some (.ref (He.ga K x)) ∧ PySem.W.keepIn K (.ref (He.ga K x)) = true ∧
    ∃ fd n q params, FunD K n q params I.body I.sc [] [] (He.ga K x) fd ∧ Binds K fd I.ps []
  met : ∀ c m I, G.cls c ≠ none → G.fn (c ++ ("." : Str) ++ m) = some I → Meth K (He.ga K c) m (He.ma K (He.ga K c) m) ∧
    ∃ fd n q params, FunD K n q params I.body I.sc [] [] (He.ma K (He.ga K c) m) fd ∧ Binds K fd I.ps []
  cls : ∀ c fz, G.cls c = some fz → Cls K (He.ga K c) ∧ mg c = some (.ref (He.ga K c)) ∧ Mk K (He.ga K c) (He.ma K (He.ga K c) "__init__") ∧ ∃ I, G.fn (c ++ ("." : Str) ++ ("__init__" : Str)) = some I
  att : ∀ c f, G.att c f = true → Cls K (He.ga K c) ∧ NoAttr K (He.ga K c) f
  con : ∀ x d, G.con x = some d → ∃ u v, mg x = some u ∧ RelV v u ∧ ∀ F, Rep K F d v
  blt : ∀ x ∈ bltNames, mg x = none
  exc : ∀ c, G.exc c = true → mg c = some (.ref (He.ga K c)) ∧ PySem.W.subIn K (.ref (He.ga K c)) (.type "BaseException") = some true ∧ PySem.W.typeIn K (.ref (He.ga K c)) = some (.type "type") ∧ PySem.W.keepIn K (.ref (He.ga K c)) = true ∧
    PySem.W.excIn K (He.ga K c) veL "ValueError.__new__" = true
  exm : ∀ c x, G.exc c = true → G.exc x = true → PySem.W.exmOne K (.ref (He.ga K c)) (.ref (He.ga K x)) = some (G.sub c x)
theorem fn_0 {q : Str} {I : FnI} {f : Addr} {fd : FuncData} {j n : Nat} (hn : n = I.ps.length) : FnOk P w K mg base (L2.CX P w) j f fd I.ps (spR K (call G 0) q n) :=
  ⟨fun vs H Q E h => by rw [← hn]; exact h.1, fun A outer s H args us vs Q E hr e0 hb r hsp => by
    obtain ⟨hl, F0, ρ, h, ws, wd, rw', m⟩ := hsp
    exact m.elim⟩
theorem glob_ok (T : Top G K mg) : ∀ k, Glob G (call G k) k P w K mg base
  | 0 => {
      len := fun q I ws h _ => .inl rfl
      glb := fun x I h1 h2 => by
        obtain ⟨a, b, fd, n, q, pr, F, B⟩ := T.glb x I h1 h2
        exact ⟨a, b, fd, fn_0 rfl, B⟩
      met := fun c m I h1 h2 => by
        obtain ⟨a, fd, n, q, pr, F, B⟩ := T.met c m I h1 h2
        exact ⟨a, fd, fn_0 rfl, B⟩
      cls := T.cls, att := T.att, con := T.con, blt := T.blt, exc := T.exc, exm := T.exm }
  | k + 1 => {
      len := fun q I ws h hq => by
        by_cases e : ws.length = I.ps.length
        · exact .inr e
        · refine .inl ?_
          have e0 : call G (k + 1) q ws h = run G (call G k) I ws h := by
            show (match G.fn q with | some I => run G (call G k) I ws | none => fun _ => .no) h = _
            rw [hq]
          rw [e0]
          unfold run
          rw [decide_eq_false e]
      glb := fun x I h1 h2 => by
        obtain ⟨a, b, fd, n, q, pr, F, B⟩ := T.glb x I h1 h2
        exact ⟨a, b, fd, fn_ok (glob_ok T k) h1 F (T.sc x I h1), B⟩
      met := fun c m I h1 h2 => by
        obtain ⟨a, fd, n, q, pr, F, B⟩ := T.met c m I h1 h2
        exact ⟨a, fd, fn_ok (glob_ok T k) h2 F (T.sc _ I h2), B⟩
      cls := T.cls, att := T.att, con := T.con, blt := T.blt, exc := T.exc, exm := T.exm }
end
end KR
namespace KR
open PySem PySem.Spec PyProof.Rows L2
theorem lk_some {α β : Type} [BEq α] [LawfulBEq α] : ∀ {ns : List α} {us : List β} {n : α}, ns.Nodup → us.length = ns.length → n ∈ ns → ∃ u, (ns.zip us).lookup n = some u
  | [], _, _, _, _, h => nomatch h
  | m :: ns, [], _, _, hl, _ => by cases hl
  | m :: ns, u :: us, n, hnd, hl, h => by
    rw [List.zip_cons_cons, List.lookup_cons]
    cases q : n == m with
    | true => exact ⟨u, rfl⟩
    | false =>
      rcases List.mem_cons.mp h with h | h
      · rw [h] at q; simp at q
      · exact lk_some (List.nodup_cons.mp hnd).2 (by simpa using hl) h
theorem lk_zip {α β : Type} [BEq α] [LawfulBEq α] : ∀ {ns : List α} {us : List β}, ns.Nodup → us.length = ns.length → (ns.filterMap fun n => ((ns.zip us).lookup n).map fun u => (n, u)) = ns.zip us := by
  have key : ∀ {ns : List α} {us : List β}, ns.Nodup → us.length = ns.length → ∀ (i : Nat) (n : α), ns[i]? = some n → ∃ u, us[i]? = some u ∧ (ns.zip us).lookup n = some u := by
    intro ns
    induction ns with
    | nil => intro us _ _ i n h; simp at h
    | cons m ns ih =>
      intro us hnd hl i n h
      cases us with
      | nil => cases hl
      | cons u us =>
        cases i with
        | zero =>
          have : m = n := by simpa using h
          subst this
          exact ⟨u, rfl, by simp [List.lookup]⟩
        | succ i =>
          have hn : ns[i]? = some n := by simpa using h
          obtain ⟨v, h1, h2⟩ := ih (us := us) (List.nodup_cons.mp hnd).2 (by simpa using hl) i n hn
          have ne : (n == m) = false := by
            have : n ∈ ns := List.mem_of_getElem? hn
            have h3 := (List.nodup_cons.mp hnd).1
            exact beq_eq_false_iff_ne.mpr fun z => h3 (z ▸ this)
          refine ⟨v, by simpa using h1, ?_⟩
          rw [List.zip_cons_cons, List.lookup_cons, ne]
          exact h2
  intro ns us hnd hl
  refine List.ext_getElem? fun i => ?_
  have all : ∀ n ∈ ns, ∃ u, ((ns.zip us).lookup n).map (fun u => (n, u)) = some u := fun n hn => by
    obtain ⟨i, hi⟩ := List.mem_iff_getElem?.mp hn
    obtain ⟨u, _, h2⟩ := key hnd hl i n hi
    exact ⟨_, by rw [h2]; rfl⟩
  have fm : ∀ {ms : List α} {f : α → Option (α × β)}, (∀ n ∈ ms, ∃ u, f n = some u) → ∀ j : Nat, (ms.filterMap f)[j]? = ms[j]?.bind f := by
    intro ms f
    induction ms with
    | nil => intro _ j; simp
    | cons m ms ih =>
      intro h j
      obtain ⟨u, hu⟩ := h m List.mem_cons_self
      rw [List.filterMap_cons, hu]
      cases j with
      | zero => simp [hu]
      | succ j => simpa using ih (fun n hn => h n (List.mem_cons_of_mem _ hn)) j
  rw [fm all i]
  cases q : ns[i]? with
  | none =>
    have : ns.length ≤ i := by simpa using q
    rw [List.getElem?_eq_none (by rw [List.length_zip]; omega)]
    rfl
  | some n =>
    obtain ⟨u, h1, h2⟩ := key hnd hl i n q
    show ((ns.zip us).lookup n).map (fun u => (n, u)) = _
    rw [h2]
    exact (List.getElem?_zip_eq_some.mpr ⟨q, h1⟩).symm
theorem bind_plain {x qual : Str} {as : List Arg} {kd : List (Option Expr)} {dd : List Expr} {body : List Stmt} {scope : Scope} {kV doc pm cdv ct : Value} {an : Option Addr} {us : List Value} (hnd : (as.map (·.arg)).Nodup) (hl : us.length = (as.map (·.arg)).length) :
    bindArgs (PySem.W.fnOf x qual ⟨[], as, none, [], kd, none, dd⟩ body scope .none kV doc pm an cdv ct) ⟨us, []⟩ = pure ((as.map (·.arg)).zip us) := by
  have h1 : seqItems? (Value.none) = (pure none : Sem (Option (Array Value))) := rfl
  have miss : ((as.map (·.arg)).filter fun n => (((as.map (·.arg)).zip us).lookup n).isNone) = [] := by
    refine List.filter_eq_nil_iff.mpr fun n hn => ?_
    have := lk_some hnd hl hn
    obtain ⟨u, hu⟩ := this
    rw [hu]; simp
  have tk : List.take ((List.map (fun x => x.arg) ([] : List Arg) ++ List.map (fun x => x.arg) as).length - (List.drop ((#[] : Array Value).size - (List.map (fun x => x.arg) ([] : List Arg) ++ List.map (fun x => x.arg) as).length) ([] : List Value)).length) (List.map (fun x => x.arg) ([] : List Arg) ++ List.map (fun x => x.arg) as) = as.map (·.arg) := by
    simp
    exact List.take_of_length_le (by simp)
  have fin := lk_zip hnd hl
  have l2 : as.length = us.length := by simpa using hl.symm
  simp [bindArgs, PySem.W.fnOf, h1]
  rw [if_neg (by omega), if_neg (by rw [tk, miss]; simp)]
  congr 1
  rw [List.filterMap_map] at fin
  exact fin
end KR
/-! KR: the deck: what a run of the top shows. -/
namespace KR
open PySem PySem.Spec PyProof.Rows L2

def methsOf (c : Str) : List Stmt → List He.DefD
  | [] => []
  | .FunctionDef n a b _ _ _ sc _ _ _ :: r => ⟨(c, some n), n, c ++ ("." : Str) ++ n, a, b, sc, [], []⟩ :: methsOf c r
  | _ :: r => methsOf c r
def defsOf : List Stmt → List He.DefD
  | [] => []
  | .FunctionDef n a b _ _ _ sc _ _ _ :: r => ⟨(n, none), n, n, a, b, sc, [], []⟩ :: defsOf r
  | .ClassDef c _ _ b _ _ _ _ _ _ _ :: r => methsOf c b ++ defsOf r
  | _ :: r => defsOf r
def clsNs : List Stmt → List Str
  | [] => []
  | .ClassDef c _ _ _ _ _ _ _ _ _ _ :: r => c :: clsNs r
  | _ :: r => clsNs r
def noDot (x : Str) : Bool := x.cps.toList.all fun c => !(c == 46)
def plainA (a : Arguments) : Bool := a.posonlyargs.isEmpty && (a.vararg.isNone && (a.kwonlyargs.isEmpty && a.kwarg.isNone))
/-- what the text alone tells -/
def statB (body : List Stmt) : Bool :=
  ((fnL body).all fun p => C8.scC p.2.N p.2.ps p.2.sc) && ((glbL body).all noDot && ((clsNs body).all noDot && ((defsOf body).all (fun d => plainA d.params) && (clsL body).all fun p => ((fnL body).lookup (p.1 ++ ("." : Str) ++ ("__init__" : Str))).isSome)))
mutual
def repB (K : PySem.W.Frag) : D → Value → Bool
  | .non, .none => true
  | .bl b, .bool c => b == c
  | .int i, .int j _ => decide (i = j)
  | .str s, .str y _ => decide (y = St s) && okT s
  | .tup xs, .ref a => (match K.lookup a with
    | some ⟨.type c, none, .seq its _, _⟩ => decide (c = "tuple") && (decide (its.size ≤ sizeLine) && repBs K xs its.toList)
    | _ => false)
  | _, _ => false
def repBs (K : PySem.W.Frag) : List D → List Value → Bool
  | [], [] => true
  | x :: xs, u :: us => repB K x u && repBs K xs us
  | _, _ => false
end
def conB (K : PySem.W.Frag) (x : Str) (d : D) : Bool := match PySem.W.nsIn K mainGlobals x with
  | some (some u) => repB K d u
  | _ => false
/-- what the heap is to show -/
def factsB (body : List Stmt) (K : PySem.W.Frag) : Bool :=
  ((glbL body).all fun x => (He.Fa.glo x).ok K) && ((bltNames.all fun x => (He.Fa.free x).ok K) &&
  (((clsL body).all fun p => (He.Fa.glo p.1).ok K && ((He.Fa.cls p.1).ok K && ((He.Fa.mkr p.1).ok K && p.2.all fun f => (He.Fa.noat p.1 f).ok K))) &&
  (((defsOf body).all fun d => match d.at_.2 with | some m => (He.Fa.meth d.at_.1 m).ok K | none => true) &&
  (((supL body []).all fun p => (He.Fa.glo p.1).ok K && ((He.Fa.exc p.1).ok K && (supL body []).all fun r => (He.Fa.exm p.1 r.1 (decide (r.1 ∈ p.2))).ok K)) &&
  ((conL body).all fun p => conB K p.1 p.2)))))
def obsK (body : List Stmt) (K : PySem.W.Frag) : He.AlD := (factsB body K && (defsOf body).all fun d => d.ok K, (defsOf body).map fun d => He.fnW K d.at_)
def SaysK (body : List Stmt) (K : PySem.W.Frag) : Prop := obsK body K = He.valD (defsOf body)
def obsKG (n : Nat) (body : List Stmt) (g : Addr → Option Obj) : He.AlD := obsK body (He.frG g (He.asD g n))
def hookK (n : Nat) (body : List Stmt) : PySem.W.Hook where
  α := He.AlD
  obs := fun s => obsKG n body s.heap.get?
  val := fun _ => He.valD (defsOf body)
  says := fun _ h => ∃ K : PySem.W.Frag, K.In h ∧ SaysK body K
  of := fun _ _ e => ⟨_, He.frG_in, e⟩
  keeps := fun _ _ _ ⟨K, hK, c⟩ k => ⟨K, PySem.W.Frag.In.keeps hK k, c⟩
theorem obsKG_eq {n : Nat} {body : List Stmt} {g : Addr → Option Obj} {s : Shared} (h : ∀ a, g a = s.heap.get? a) : obsKG n body g = (hookK n body).obs s := by
  have e : g = s.heap.get? := funext h
  rw [e] <;> rfl
section
variable {body : List Stmt} {K : PySem.W.Frag} {h : Heap} {mg : Str → Option Value}
theorem SaysK.facts (c : SaysK body K) : factsB body K = true := (Bool.and_eq_true_iff.mp (show (factsB body K && (defsOf body).all fun d => d.ok K) = true from congrArg (fun z : He.AlD => z.1) c)).1
theorem SaysK.def_ (c : SaysK body K) {d : He.DefD} (h : d ∈ defsOf body) : ∃ fd, FunD K d.name d.qual d.params d.body d.scope (d.dvs K) (d.kws K) (He.fAd K d.at_) fd := by
  have c2 := (Bool.and_eq_true_iff.mp (show (factsB body K && (defsOf body).all fun d => d.ok K) = true from congrArg (fun z : He.AlD => z.1) c)).2
  have e : (defsOf body).map (fun d => He.fnW K d.at_) = (defsOf body).map He.DefD.val := congrArg (fun z : He.AlD => z.2) c
  obtain ⟨i, hi⟩ := List.mem_iff_getElem?.mp h
  have e2 : ((defsOf body).map fun d => He.fnW K d.at_)[i]? = ((defsOf body).map He.DefD.val)[i]? := by rw [e]
  rw [List.getElem?_map, List.getElem?_map, hi] at e2
  exact He.DefD.funD (Option.some.inj e2) (List.all_eq_true.mp c2 d h)
mutual
theorem repB_ok : ∀ {d : D} {u : Value}, repB K d u = true → ∃ v, RelV v u ∧ ∀ F, Rep K F d v
  | .non, u, e => by
    cases u <;> first | exact ⟨.non, rfl, fun _ => rfl⟩ | (simp [repB] at e; done)
  | .bl b, u, e => by
    cases u with
    | bool c =>
      have e : b = c := by simpa [repB] using e
      subst e
      exact ⟨.bl b, rfl, fun _ => rfl⟩
    | _ => simp [repB] at e
  | .int i, u, e => by
    cases u with
    | int j t =>
      have e : i = j := by simpa [repB] using e
      subst e
      exact ⟨.int i, ⟨t, rfl⟩, fun _ => rfl⟩
    | _ => simp [repB] at e
  | .str s, u, e => by
    cases u with
    | str y t =>
      have e : y = St s ∧ okT s = true := by simpa [repB] using e
      obtain ⟨rfl, ok⟩ := e
      exact ⟨.str (St s), ⟨t, rfl⟩, fun _ => ⟨rfl, ok⟩⟩
    | _ => simp [repB] at e
  | .tup xs, u, e => by
    cases u with
    | ref a =>
      unfold repB at e
      cases q : K.lookup a with
      | none => rw [q] at e; cases e
      | some o =>
        obtain ⟨oc, od, dt, osl⟩ := o
        rw [q] at e
        cases oc with
        | type c =>
          cases od with
          | none =>
            cases dt with
            | seq its n =>
              simp only [Bool.and_eq_true, decide_eq_true_eq] at e
              obtain ⟨h1, h2, h3⟩ := e
              obtain ⟨vs, r1, r2⟩ := repBs_ok h3
              exact ⟨.ref a, rfl, fun F => ⟨a, vs, rfl, .inr ⟨_, its, n, q, congrArg Value.type h1, rfl, rfl, h2, r1⟩, r2 F⟩⟩
            | _ => cases e
          | some _ => cases dt <;> cases e
        | _ => cases od <;> cases dt <;> cases e
    | _ => simp [repB] at e
  | .lst _, u, e => by cases u <;> simp [repB] at e
  | .ins _ _ _, u, e => by cases u <;> simp [repB] at e
  | .scr _, u, e => by cases u <;> simp [repB] at e
theorem repBs_ok : ∀ {ds : List D} {us : List Value}, repBs K ds us = true → ∃ vs, Vals vs us ∧ ∀ F, RepL K F ds vs
  | [], [], _ => ⟨[], .nil, fun _ => rfl⟩
  | [], _ :: _, e => by simp [repBs] at e
  | _ :: _, [], e => by simp [repBs] at e
  | d :: ds, u :: us, e => by
    have e : repB K d u = true ∧ repBs K ds us = true := by simpa [repBs] using e
    obtain ⟨v, a1, a2⟩ := repB_ok e.1
    obtain ⟨vs, b1, b2⟩ := repBs_ok e.2
    exact ⟨v :: vs, .cons a1 b1, fun F => ⟨v, vs, rfl, a2 F, b2 F⟩⟩
end
theorem con_ok (X : K.In h) (G : h.Ns mainGlobals mg) {x : Str} {d : D} (e : conB K x d = true) : ∃ u v, mg x = some u ∧ RelV v u ∧ ∀ F, Rep K F d v := by
  unfold conB at e
  cases q : PySem.W.nsIn K mainGlobals x with
  | none => rw [q] at e; cases e
  | some o =>
    cases o with
    | none => rw [q] at e; cases e
    | some u =>
      rw [q] at e
      obtain ⟨v, a, b⟩ := repB_ok e
      exact ⟨u, v, PySem.W.mg_of X G q, a, b⟩
theorem lk_mem {α : Type} {l : List (Str × α)} {x : Str} {a : α} (h : l.lookup x = some a) : (x, a) ∈ l := by
  induction l with
  | nil => cases h
  | cons p l ih =>
    obtain ⟨y, b⟩ := p
    rw [List.lookup_cons] at h
    cases q : x == y with
    | true =>
      rw [q] at h
      cases h
      have : x = y := by simpa using q
      rw [this]; exact List.mem_cons_self
    | false => rw [q] at h; exact List.mem_cons_of_mem _ (ih h)
theorem methL_def {c : Str} : ∀ {b : List Stmt} {q : Str} {I : FnI}, (q, I) ∈ methL c b → ∃ n a bb sc, q = c ++ ("." : Str) ++ n ∧ I = mkFn q a bb sc ∧ (⟨(c, some n), n, q, a, bb, sc, [], []⟩ : He.DefD) ∈ methsOf c b
  | [], _, _, h => nomatch h
  | s :: r, q, I, h => by
    cases s with
    | FunctionDef n a b x1 x2 x3 sc x4 x5 x6 =>
      rcases List.mem_cons.mp (show (q, I) ∈ (c ++ ("." : Str) ++ n, mkFn (c ++ ("." : Str) ++ n) a b sc) :: methL c r from h) with h | h
      · cases h; exact ⟨n, a, b, sc, rfl, rfl, List.mem_cons_self⟩
      · obtain ⟨n', a', b', sc', e1, e2, e3⟩ := methL_def h
        exact ⟨n', a', b', sc', e1, e2, List.mem_cons_of_mem _ e3⟩
    | _ => exact methL_def (b := r) h
def DefAt (body : List Stmt) (q : Str) (I : FnI) : Prop :=
    (∃ a b sc, q ∈ glbL body ∧ I = mkFn q a b sc ∧ (⟨(q, none), q, q, a, b, sc, [], []⟩ : He.DefD) ∈ defsOf body) ∨
    (∃ c n a b sc, c ∈ clsNs body ∧ q = c ++ ("." : Str) ++ n ∧ I = mkFn q a b sc ∧ (⟨(c, some n), n, q, a, b, sc, [], []⟩ : He.DefD) ∈ defsOf body)
theorem fnL_def : ∀ {body : List Stmt} {q : Str} {I : FnI}, (q, I) ∈ fnL body → DefAt body q I
  | [], _, _, h => nomatch h
  | s :: r, q, I, h => by
    have up : (∀ x, x ∈ glbL r → x ∈ glbL (s :: r)) ∧ (∀ x, x ∈ clsNs r → x ∈ clsNs (s :: r)) ∧ (∀ x, x ∈ defsOf r → x ∈ defsOf (s :: r)) := by
      cases s <;> refine ⟨fun x hx => ?_, fun x hx => ?_, fun x hx => ?_⟩ <;> first | exact hx | exact List.mem_cons_of_mem _ hx | exact List.mem_append_right _ hx
    have rcc : (q, I) ∈ fnL r → DefAt (s :: r) q I := fun h => by
      rcases fnL_def h with ⟨a, b, sc, e1, e2, e3⟩ | ⟨c, n, a, b, sc, e1, e2, e3, e4⟩
      · exact Or.inl ⟨a, b, sc, up.1 _ e1, e2, up.2.2 _ e3⟩
      · exact Or.inr ⟨c, n, a, b, sc, up.2.1 _ e1, e2, e3, up.2.2 _ e4⟩
    cases s with
    | FunctionDef n a b x1 x2 x3 sc x4 x5 x6 =>
      rcases List.mem_cons.mp (show (q, I) ∈ (n, mkFn n a b sc) :: fnL r from h) with h | h
      · cases h; exact .inl ⟨a, b, sc, List.mem_cons_self, rfl, List.mem_cons_self⟩
      · exact rcc h
    | ClassDef c x1 x2 b x3 x4 x5 x6 x7 x8 x9 =>
      rcases List.mem_append.mp (show (q, I) ∈ methL c b ++ fnL r from h) with h | h
      · obtain ⟨n, a, bb, sc, e1, e2, e3⟩ := methL_def h
        exact .inr ⟨c, n, a, bb, sc, List.mem_cons_self, e1, e2, List.mem_append_left _ e3⟩
      · exact rcc h
    | _ => exact rcc h
theorem dot_inj {c c' m n : Str} (h1 : noDot c = true) (h2 : noDot c' = true) (e : c ++ ("." : Str) ++ m = c' ++ ("." : Str) ++ n) : c = c' ∧ m = n := by
  have key : ∀ (l1 l2 r1 r2 : List Nat), (l1.all fun c => !(c == 46)) = true → (l2.all fun c => !(c == 46)) = true → l1 ++ 46 :: r1 = l2 ++ 46 :: r2 → l1 = l2 ∧ r1 = r2 := by
    intro l1
    induction l1 with
    | nil =>
      intro l2 r1 r2 _ g2 e
      cases l2 with
      | nil => simpa using e
      | cons b l2 =>
        have : 46 = b := by simpa using (List.cons.inj e).1
        subst this
        simp at g2
    | cons a l1 ih =>
      intro l2 r1 r2 g1 g2 e
      cases l2 with
      | nil =>
        have : a = 46 := by simpa using (List.cons.inj e).1
        subst this
        simp at g1
      | cons b l2 =>
        obtain ⟨e1, e2⟩ := List.cons.inj e
        have g1 : (l1.all fun c => !(c == 46)) = true := (Bool.and_eq_true_iff.mp (show (!(a == 46) && l1.all fun c => !(c == 46)) = true from g1)).2
        have g2 : (l2.all fun c => !(c == 46)) = true := (Bool.and_eq_true_iff.mp (show (!(b == 46) && l2.all fun c => !(c == 46)) = true from g2)).2
        obtain ⟨e3, e4⟩ := ih l2 r1 r2 g1 g2 e2
        exact ⟨by rw [e1, e3], e4⟩
  have cp : ∀ a b : Str, (a ++ ("." : Str) ++ b).cps.toList = a.cps.toList ++ 46 :: b.cps.toList := fun a b => by
    show ((a.cps ++ #[46]) ++ b.cps).toList = _
    simp
  have e2 := congrArg (fun z : Str => z.cps.toList) e
  simp only [cp] at e2
  obtain ⟨a1, a2⟩ := key _ _ _ _ h1 h2 e2
  obtain ⟨⟨c⟩⟩ := c
  obtain ⟨⟨c'⟩⟩ := c'
  obtain ⟨⟨m⟩⟩ := m
  obtain ⟨⟨n⟩⟩ := n
  simp only at a1 a2
  subst a1 a2
  exact ⟨rfl, rfl⟩
theorem dot_dot {c m x : Str} (h : noDot x = true) (e : x = c ++ ("." : Str) ++ m) : False := by
  have cp : (c ++ ("." : Str) ++ m).cps.toList = c.cps.toList ++ 46 :: m.cps.toList := by
    show ((c.cps ++ #[46]) ++ m.cps).toList = _
    simp
  unfold noDot at h
  rw [e, cp] at h
  simp at h
theorem clsL_ns : ∀ {body : List Stmt} {c : Str} {fs : List Str}, (c, fs) ∈ clsL body → c ∈ clsNs body
  | [], _, _, h => nomatch h
  | s :: r, c, fs, h => by
    have up : ∀ x, x ∈ clsNs r → x ∈ clsNs (s :: r) := by
      cases s <;> intro x hx <;> first | exact hx | exact List.mem_cons_of_mem _ hx
    cases s with
    | ClassDef c' bs x2 b x3 x4 x5 x6 x7 x8 x9 =>
      cases bs with
      | nil =>
        rcases List.mem_cons.mp (show (c, fs) ∈ (c', attM b) :: clsL r from h) with h | h
        · cases h; exact List.mem_cons_self
        · exact up _ (clsL_ns h)
      | cons _ _ => exact up _ (clsL_ns (body := r) h)
    | _ => exact up _ (clsL_ns (body := r) h)
theorem binds_of {x qual : Str} {params : Arguments} {b : List Stmt} {scope : Scope} {kws : List (Str × V)} {f : Addr} {fd : FuncData} (F : FunD K x qual params b scope [] kws f fd) (hp : plainA params = true) (hnd : (argNames params).Nodup) :
    ∀ (kV doc pm : Value) (an : Option Addr) (cdv ct : Value) (us : List Value), us.length = (argNames params).length → bindArgs (PySem.W.fnOf x qual params b scope .none kV doc pm an cdv ct) ⟨us, []⟩ = pure ((argNames params).zip us) := by
  intro kV doc pm an cdv ct us hl
  obtain ⟨po, as, va, kw, kd, ka, dd⟩ := params
  simp only [plainA, Bool.and_eq_true, List.isEmpty_iff, Option.isNone_iff_eq_none] at hp
  obtain ⟨rfl, rfl, rfl, rfl⟩ := hp
  exact bind_plain hnd hl
theorem top_ok {frz imp : List Str} {mutb : List (Str × Str)} (S : statB body = true) (c : SaysK body K) (X : K.In h) (G : h.Ns mainGlobals mg) : Top (mkGam body frz imp mutb) K mg := by
  have F := c.facts
  unfold factsB at F
  simp only [Bool.and_eq_true, List.all_eq_true] at F
  obtain ⟨f1, f2, f3, f4, f5, f6⟩ := F
  unfold statB at S
  simp only [Bool.and_eq_true, List.all_eq_true] at S
  obtain ⟨s1, s2, s3, s4, s5⟩ := S
  have fnm : ∀ {q I}, (mkGam body frz imp mutb).fn q = some I → (q, I) ∈ fnL body := fun h => lk_mem h
  have scp : ∀ q I, (mkGam body frz imp mutb).fn q = some I → FnScope I.N I.ps I.sc := fun q I h => C8.fnScope_by (s1 _ (fnm h))
  have ndp : ∀ q I, (mkGam body frz imp mutb).fn q = some I → I.ps.Nodup := fun q I h => by
    have S := scp q I h
    rw [← S.pre]; exact S.nd.sublist (List.take_sublist _ _)
  refine ⟨scp, ?_, ?_, ?_, ?_, ?_, ?_, ?_, ?_⟩
  · intro x I hq hg
    have hx : x ∈ glbL body := of_decide_eq_true hg
    rcases fnL_def (fnm hq) with ⟨a, b, sc, e1, rfl, e3⟩ | ⟨cc, n, a, b, sc, e1, e2, _, _⟩
    · obtain ⟨fd, FD⟩ := c.def_ e3
      exact ⟨He.glo_ok X G (f1 x hx), FD.kp, fd, x, x, a, FD, FD.bindsN (binds_of FD (s4 _ e3) (ndp x _ hq))⟩
    · exact (dot_dot (s2 x hx) e2).elim
  · intro cc m I hc hq
    rcases fnL_def (fnm hq) with ⟨a, b, sc, e1, rfl, e3⟩ | ⟨c', n, a, b, sc, e1, e2, rfl, e4⟩
    · exact (dot_dot (s2 _ e1) rfl).elim
    · have hcn : cc ∈ clsNs body := by
        cases q : (clsL body).lookup cc with
        | none => exact (hc (by show ((clsL body).lookup cc).map _ = none; rw [q]; rfl)).elim
        | some fs => exact clsL_ns (lk_mem q)
      obtain ⟨rfl, rfl⟩ := dot_inj (s3 _ hcn) (s3 _ e1) e2
      obtain ⟨fd, FD⟩ := c.def_ e4
      exact ⟨He.meth_ok (f4 _ e4), fd, _, _, a, FD, FD.bindsN (binds_of FD (s4 _ e4) (ndp _ _ hq))⟩
  · intro cc fz hc
    cases q : (clsL body).lookup cc with
    | none =>
      have : ((clsL body).lookup cc).map (fun _ => decide (cc ∈ frz)) = some fz := hc
      rw [q] at this; cases this
    | some fs =>
      have g := f3 _ (lk_mem q)
      have g2 := s5 _ (lk_mem q)
      obtain ⟨I, hI⟩ := Option.isSome_iff_exists.mp g2
      exact ⟨He.cls_ok g.2.1, He.glo_ok X G g.1, He.mkr_ok g.2.2.1, I, hI⟩
  · intro cc f ha
    have ha : (match (clsL body).lookup cc with | some fs => decide (f ∈ fs) | none => false) = true := ha
    cases q : (clsL body).lookup cc with
    | none => rw [q] at ha; cases ha
    | some fs =>
      rw [q] at ha
      have g := f3 _ (lk_mem q)
      exact ⟨He.cls_ok g.2.1, He.noat_ok (g.2.2.2 f (of_decide_eq_true ha))⟩
  · intro x d hd
    exact con_ok X G (f6 _ (lk_mem hd))
  · intro x hx
    exact He.free_ok X G (f2 x hx)
  · intro x hx
    obtain ⟨l, hl⟩ := Option.isSome_iff_exists.mp hx
    have g := f5 _ (lk_mem hl)
    obtain ⟨g1, g2, g3, g4⟩ := He.exc_ok g.2.1
    exact ⟨He.glo_ok X G g.1, g3, g4, g2, g1⟩
  · intro cc x hc hx
    obtain ⟨l, hl⟩ := Option.isSome_iff_exists.mp hc
    obtain ⟨l2, hl2⟩ := Option.isSome_iff_exists.mp hx
    have g := f5 _ (lk_mem hl)
    have e : (mkGam body frz imp mutb).sub cc x = decide (x ∈ l) := by
      show (match (supL body []).lookup cc with | some l => decide (x ∈ l) | none => false) = _
      rw [hl]
    rw [e]
    exact He.exm_ok (g.2.2 _ (lk_mem hl2))
/-- a def that lets nothing out -/
theorem ok0 {P : Program} {w : World} {base : Heap} {j : Nat} {f : Addr} {fd : FuncData} {ps : List Str} {sp : Sp} (F : FnOk P w K mg base (L2.CX P w) j f fd ps sp) : FnOk P w K mg base L2.CX0 j f fd ps (fun vs H Q _ => sp vs H Q fun _ _ _ => False) :=
  ⟨fun vs H Q E h => F.len _ _ _ _ h, fun A outer s H args us vs Q E hr e0 hb r h => codeAny_mono (F.run A outer s H args us vs Q (fun _ _ _ => False) hr e0 hb r h) fun r s' hq => by
    cases r with
    | error e =>
      obtain ⟨_, _, _, _, _, _, _, _, _, _, _, _, z⟩ := (show L2.CX P w outer H s (fun _ _ _ => False) e s' from hq)
      exact z.elim
    | ok fl => cases fl <;> exact hq⟩
/-- the law's def, over every base -/
theorem law_ok {frz imp : List Str} {mutb : List (Str × Str)} {P : Program} {w : World} {x : Str} {f : Addr} {n : Nat} {I : FnI} (S : statB body = true) (hI : (mkGam body frz imp mutb).fn "law" = some I) (hg : (mkGam body frz imp mutb).glb "law" = true) (hp : I.ps = [x])
    (plain : ∀ ns : List Int, ns.length ≤ n → ∃ h', call (mkGam body frz imp mutb) 60 "law" [.d (.scr ns)] [] = .ok (.d (.bl true)) h')
    (X : K.In h) (G : h.Ns mainGlobals mg) (hfa : mg ("law" : Str) = some (.ref f)) (c : SaysK body K) :
    ∃ (fd : FuncData) (sp : Sp), (∀ (s : Shared) (v : Value), BindsTo s fd ⟨[v], []⟩ [(x, v)]) ∧ (∀ (H : Hp) (a : Addr) (ns : List Int), ns.length ≤ n → SqL K H a (ns.map V.int) → sp [.ref a] H (fun v _ => v = .bl true) fun _ _ _ => False) ∧
      ∀ base : Heap, K.In base → base.Ns mainGlobals mg → FnOk P w K mg base L2.CX0 121 f fd [x] sp := by
  have T := top_ok (frz := frz) (imp := imp) (mutb := mutb) S c X G
  obtain ⟨e1, kp, _⟩ := T.glb "law" I hI hg
  have e2 := hfa.symm.trans e1
  cases e2
  unfold statB at S
  simp only [Bool.and_eq_true, List.all_eq_true] at S
  obtain ⟨s1, s2, s3, s4, s5⟩ := S
  have hlaw : ("law" : Str) ∈ glbL body := of_decide_eq_true hg
  rcases fnL_def (lk_mem (show (fnL body).lookup ("law" : Str) = some I from hI)) with ⟨a, b, sc, e1', rfl, e3⟩ | ⟨cc, n', a, b, sc, _, e2, _, _⟩
  · obtain ⟨fd, FD⟩ := c.def_ e3
    have nd : (argNames a).Nodup := by
      have S := T.sc _ _ hI
      have : (mkFn "law" a b sc).ps.Nodup := by rw [← S.pre]; exact S.nd.sublist (List.take_sublist _ _)
      exact this
    have bd := binds_of FD (s4 _ e3) nd
    have hp : argNames a = [x] := hp
    refine ⟨fd, fun vs H Q _ => spR K (call (mkGam body frz imp mutb) 60) "law" 1 vs H Q fun _ _ _ => False, fun s v => ?_, fun H q ns hn hs => ?_, fun base KB GB => ?_⟩
    · have := FD.bindsA (ps := argNames a) bd s [v] (by rw [hp]; rfl)
      rw [hp] at this
      exact this
    · obtain ⟨h', e⟩ := plain ns hn
      refine ⟨rfl, H, [], [], [.d (.scr ns)], ⟨.refl _, rfl, List.nodup_nil, (fun _ h => nomatch h), fun i b e => nomatch (show (none : Option Ob) = some b by simpa using e)⟩, ⟨.ref q, [], rfl, ⟨q, rfl, hs⟩, rfl⟩, ?_⟩
      rw [e]
      exact fun F' ρ' H' v _ _ r => r
    · have := fn_ok (P := P) (w := w) (base := base) (glob_ok T 59) hI FD (T.sc _ _ hI)
      have e5 : (mkFn "law" a b sc).ps = [x] := hp
      rw [e5] at this
      exact ok0 this
  · exact (dot_dot (s2 _ hlaw) e2).elim
end
end KR
/-! KR: the law's own reading of its script. -/
namespace KR
open PySem PySem.Spec PyProof.Rows L2
def cellF (ns : List Int) (i : Int) : Int := (ns[i.toNat]?).getD 0
def cellQ (q : Str) (ws : List W) : Option (List Int × Nat) := match decide (q = "_law_cell"), ws with
  | true, [.d (.scr ns), .d (.int (.ofNat n))] => some (ns, n)
  | _, _ => none
theorem cellQ_ok {q : Str} {ws : List W} {ns : List Int} {n : Nat} (h : cellQ q ws = some (ns, n)) : q = "_law_cell" ∧ ws = [.d (.scr ns), .d (.int (.ofNat n))] := by
  unfold cellQ at h
  split at h
  · rename_i hq
    cases h
    exact ⟨of_decide_eq_true hq, rfl⟩
  · cases h
/-- the oracle that answers _law_cell at once -/
def step2 (G : Gam) (cl : Cl) (q : Str) (ws : List W) : M W := match cellQ q ws with
  | some (ns, n) => fun h => .ok (.d (.int (cellF ns (.ofNat n)))) h
  | none => (match G.fn q with
    | some I => run G cl I ws
    | none => fun _ => .no)
def call2 (G : Gam) : Nat → Cl
  | 0 => fun _ _ _ => .no
  | k + 1 => step2 G (call2 G k)
def CellOk (G : Gam) : Prop := ∀ (k : Nat) (ns : List Int) (n : Nat) (h : Hs), call G (k + 1) "_law_cell" [.d (.scr ns), .d (.int (.ofNat n))] h = .ok (.d (.int (cellF ns (.ofNat n)))) h
theorem call2_eq {G : Gam} (hc : CellOk G) : ∀ k, call2 G k = call G k
  | 0 => rfl
  | k + 1 => by
    funext q ws h
    have e : call G (k + 1) q ws h = (match G.fn q with | some I => run G (call G k) I ws | none => fun _ => .no) h := rfl
    have ih := call2_eq hc k
    show step2 G (call2 G k) q ws h = _
    unfold step2
    cases hq : cellQ q ws with
    | none =>
      rw [ih]
      exact e.symm
    | some p =>
      obtain ⟨ns, n⟩ := p
      obtain ⟨rfl, rfl⟩ := cellQ_ok hq
      exact (hc k ns n h).symm
def isT (r : R W) : Bool := match r with
  | .ok (.d (.bl b)) _ => b
  | _ => false
theorem isT_ok {r : R W} (h : isT r = true) : ∃ h', r = .ok (.d (.bl true)) h' := by
  unfold isT at h
  split at h
  · subst h; exact ⟨_, rfl⟩
  · cases h
def isTS (r : RS) : Bool := match r with
  | .rt (.d (.bl b)) _ => b
  | _ => false
theorem exB_cons {C : Cfg} {n m : Nat} {sc : Scope} {q : Str} {env : Env} {s t : Stmt} {r : List Stmt} {h : Hs} : exB C (n + 1) m sc q env (s :: t :: r) h = seqS (ex C n m sc q env s) (fun e => exB C n m sc q e (t :: r)) h := rfl
theorem exB_one {C : Cfg} {n m : Nat} {sc : Scope} {q : Str} {env : Env} {s : Stmt} {h : Hs} : exB C (n + 1) m sc q env [s] h = ex C n m sc q env s h := rfl
theorem seq_nx {m : MS} {k : Env → MS} {h h' : Hs} {e : Env} (q : m h = .nx e h') : seqS m k h = k e h' := by unfold seqS; rw [q]
theorem atI_nat {α : Type} {xs : List α} {n : Nat} : L2.atI xs (.ofNat n) = xs[n]? := by
  unfold L2.atI ixN
  by_cases h : n < xs.length
  · simp [h]
  · simp [h]
theorem run_ok {G : Gam} {cl : Cl} {I : FnI} {ws : List W} {h : Hs} (hl : ws.length = I.ps.length) (p : isTS (exB ⟨G, cl, I.N⟩ 60 60 I.sc I.qual (startE I.N ws) I.body h) = true) : isT (run G cl I ws h) = true := by
  unfold run
  rw [decide_eq_true hl]
  cases e : exB ⟨G, cl, I.N⟩ 60 60 I.sc I.qual (startE I.N ws) I.body h with
  | rt w h' =>
    rw [e] at p
    cases w with
    | d d => cases d <;> first | exact p | cases p
    | r i => cases p
  | _ => rw [e] at p; cases p
theorem law_run {G : Gam} {I : FnI} {n : Nat} (hc : CellOk G) (hfn : G.fn "law" = some I) (hl : 1 = I.ps.length)
    (p : ∀ ns : List Int, ns.length ≤ n → isTS (exB ⟨G, call2 G 59, I.N⟩ 60 60 I.sc I.qual (startE I.N [.d (.scr ns)]) I.body []) = true) : ∀ ns : List Int, ns.length ≤ n → ∃ h', call G 60 "law" [.d (.scr ns)] [] = .ok (.d (.bl true)) h' := fun ns hn => by
  refine isT_ok ?_
  rw [← call2_eq hc 60]
  have q : cellQ ("law" : Str) [.d (.scr ns)] = none := rfl
  show isT (step2 G (call2 G 59) "law" [.d (.scr ns)] []) = true
  unfold step2
  rw [q, hfn]
  exact run_ok hl (p ns hn)
theorem getI_cell {ns : List Int} {n : Nat} (hl : n < ns.length) : getI (.scr ns) (.int (.ofNat n)) = some (.int (cellF ns (.ofNat n))) := by
  show (L2.atI ns (.ofNat n)).map D.int = _
  rw [atI_nat]
  unfold cellF
  show _ = some (D.int ((ns[n]?).getD 0))
  rw [List.getElem?_eq_getElem hl]
  rfl
theorem cell_out {ns : List Int} {n : Nat} (hl : ¬ n < ns.length) : cellF ns (.ofNat n) = 0 := by
  show (ns[n]?).getD 0 = 0
  rw [List.getElem?_eq_none (Nat.le_of_not_lt hl)]
  rfl
def ifT : Stmt → Expr
  | .If t _ _ _ => t
  | _ => .Constant .none 0 ⟨0, 0, 0, 0⟩
def ifA : Stmt → List Stmt
  | .If _ a _ _ => a
  | _ => []
def upto (n : Nat) (P : Nat → Prop) : Prop := ∀ i, i < n → P i
theorem upto0 {P : Nat → Prop} : upto 0 P := fun _ h => absurd h (Nat.not_lt_zero _)
theorem uptoS {n : Nat} {P : Nat → Prop} (h : upto n P) (h2 : P n) : upto (n + 1) P := fun i hi => by
  rcases Nat.lt_succ_iff_lt_or_eq.mp hi with h' | h'
  · exact h i h'
  · rw [h']; exact h2
theorem mod_at (x : Int) (n : Nat) (h : 0 < n) : ∃ i : Nat, i < n ∧ x % (n : Int) = Int.ofNat i := by
  have h1 := Int.emod_nonneg x (show (n : Int) ≠ 0 by omega)
  have h2 := Int.emod_lt_of_pos x (show (0 : Int) < n by omega)
  exact ⟨(x % n).toNat, by omega, by simp; omega⟩
def namesOf : List Stmt → List Str
  | [] => []
  | .FunctionDef n _ _ _ _ _ _ _ _ _ :: r => n :: namesOf r
  | .ClassDef c _ _ _ _ _ _ _ _ _ _ :: r => c :: namesOf r
  | .Assign [.Name x _] _ _ :: r => x :: namesOf r
  | _ :: r => namesOf r
end KR
/-! the law of this claim: what its def reads of the script is one of six and one of seven; each is run by the kernel -/
namespace KR
open PySem L2
abbrev bodyL : List Stmt := PySem.Challenge.pw_keyreckon_k11_at_the_edges.main.body
abbrev GL : Gam := mkGam bodyL ["Stand"] ["_law_start", "law"] [("played", "found")]
def lawIx : Nat := bodyL.length - 1
def stL : Stmt := bodyL.getD lawIx (.Pass ⟨0, 0, 0, 0⟩)
def IL : FnI := mkFn "law" (defArgs stL) (defBody stL) (defScope stL)
def sL (i : Nat) : Stmt := (defBody stL).getD i (.Pass ⟨0, 0, 0, 0⟩)
def CL : Cfg := ⟨GL, call2 GL 59, IL.N⟩
def Ic : FnI := (GL.fn "_law_cell").getD ⟨"", [], [], ⟨.function, [], false, false, []⟩, []⟩
def ic (i : Nat) : Stmt := Ic.body.getD i (.Pass ⟨0, 0, 0, 0⟩)
theorem cell_ok : CellOk GL := by
  intro k ns n h
  have t : evT ⟨GL, call GL k, Ic.N⟩ 60 Ic.sc (startE Ic.N [.d (.scr ns), .d (.int (.ofNat n))]) (ifT (ic 0)) h = .ok (decide ((Int.ofNat n) < (Int.ofNat ns.length))) h := by kernel_rfl
  have e : call GL (k + 1) "_law_cell" [.d (.scr ns), .d (.int (.ofNat n))] h = (match true, exB ⟨GL, call GL k, Ic.N⟩ 60 60 Ic.sc Ic.qual (startE Ic.N [.d (.scr ns), .d (.int (.ofNat n))]) Ic.body h with
    | true, .rt w h' => .ok w h'
    | true, .nx _ h' => .ok (.d .non) h'
    | true, .ex c _ h' => .ex c h'
    | _, _ => .no) := by kernel_rfl
  have b : Ic.body = [ic 0, ic 1] := by kernel_rfl
  have i : ex ⟨GL, call GL k, Ic.N⟩ 59 60 Ic.sc Ic.qual (startE Ic.N [.d (.scr ns), .d (.int (.ofNat n))]) (ic 0) h = exprS (evT ⟨GL, call GL k, Ic.N⟩ 60 Ic.sc (startE Ic.N [.d (.scr ns), .d (.int (.ofNat n))]) (ifT (ic 0))) (startE Ic.N [.d (.scr ns), .d (.int (.ofNat n))]) (fun c => match c with | true => exB ⟨GL, call GL k, Ic.N⟩ 58 60 Ic.sc Ic.qual (startE Ic.N [.d (.scr ns), .d (.int (.ofNat n))]) (ifA (ic 0)) | false => exB ⟨GL, call GL k, Ic.N⟩ 58 60 Ic.sc Ic.qual (startE Ic.N [.d (.scr ns), .d (.int (.ofNat n))]) []) h := by kernel_rfl
  rw [e, b, exB_cons]
  unfold seqS
  rw [i]
  unfold exprS
  rw [t]
  by_cases hl : n < ns.length
  · have hd : decide ((Int.ofNat n) < (Int.ofNat ns.length)) = true := decide_eq_true (Int.ofNat_lt.mpr hl)
    rw [hd]
    have a : exB ⟨GL, call GL k, Ic.N⟩ 58 60 Ic.sc Ic.qual (startE Ic.N [.d (.scr ns), .d (.int (.ofNat n))]) (ifA (ic 0)) h = exprS (ofD (getI (.scr ns) (.int (.ofNat n)))) (startE Ic.N [.d (.scr ns), .d (.int (.ofNat n))]) (fun w h => .rt w h) h := by kernel_rfl
    simp only []
    rw [a, getI_cell hl]
    rfl
  · have hd : decide ((Int.ofNat n) < (Int.ofNat ns.length)) = false := decide_eq_false (fun z => hl (Int.ofNat_lt.mp z))
    rw [hd, cell_out hl]
    kernel_rfl
abbrev XL (i : Nat) (e : Env) : MS := ex CL (59 - i) 60 IL.sc IL.qual e (sL i)
def asgE : Stmt → Expr
  | .Assign _ e _ => e
  | _ => .Constant .none 0 ⟨0, 0, 0, 0⟩
def subO : Expr → Expr
  | .Subscript o _ _ => o
  | e => e
def subI : Expr → Expr
  | .Subscript _ i _ => i
  | e => e
def manT : Nat → Tx
  | 0 => [99, 104, 97, 105, 110]
  | _ => [114, 97, 110, 107]
def e11 (ns : List Int) (p : Int) : Env := (startE IL.N [.d (.scr ns)]).set 1 (some (.d (.int p)))
def f11 (ns : List Int) (i : Nat) : Env := e11 ns (3 + Int.ofNat i)
def g11 (ns : List Int) (i : Nat) : Env := ((f11 ns i).set 2 (some (.d (.str (List.replicate (3 + i) 57))))).set 3 (some (.d (.str (49 :: List.replicate (2 + i) 48))))
def h11 (ns : List Int) (i j : Nat) : Env := (g11 ns i).set 4 (some (.d (.str (manT j))))
def k11 (ns : List Int) (i j : Nat) : Env := (h11 ns i j).set 5 (some (.d (.tup [.str (manT j), .int (3 + Int.ofNat i)])))
def l11 (ns : List Int) (i j : Nat) (x y : Int) : Env := ((k11 ns i j).set 6 (some (.d (.int (2 + x))))).set 7 (some (.d (.int (1 + y))))
theorem t0 (ns : List Int) : XL 0 (startE IL.N [.d (.scr ns)]) [] = .nx (e11 ns (3 + cellF ns 0 % 6)) [] := by kernel_rfl
theorem t1 (ns : List Int) : upto 6 fun i => XL 1 (f11 ns i) [] = .nx (g11 ns i) [] := by
  refine uptoS (uptoS (uptoS (uptoS (uptoS (uptoS upto0 ?_) ?_) ?_) ?_) ?_) ?_ <;> kernel_rfl
theorem t2 (ns : List Int) (i j : Nat) (hj : j < 2) (ej : cellF ns 1 % 2 = Int.ofNat j) : XL 2 (g11 ns i) [] = .nx (h11 ns i j) [] := by
  have a : XL 2 (g11 ns i) [] = exprS (bnd (ev CL 59 IL.sc (g11 ns i) (subO (asgE (sL 2)))) fun w => bnd (ev CL 59 IL.sc (g11 ns i) (subI (asgE (sL 2)))) fun j => getX w j) (g11 ns i) (fun w h => (match putL IL.N IL.sc "_law_manner" w (g11 ns i) with | some e1 => .nx e1 h | none => .no)) [] := by kernel_rfl
  have b : ev CL 59 IL.sc (g11 ns i) (subI (asgE (sL 2))) [] = .ok (.d (.int (cellF ns 1 % 2))) [] := by kernel_rfl
  have c : ev CL 59 IL.sc (g11 ns i) (subO (asgE (sL 2))) [] = .ok (.d (.lst [.str (manT 0), .str (manT 1)])) [] := by kernel_rfl
  rw [a]
  unfold exprS bnd
  rw [c]
  dsimp only
  rw [b, ej]
  match j, hj with
  | 0, _ => kernel_rfl
  | 1, _ => kernel_rfl
theorem t3 (ns : List Int) (i j : Nat) : XL 3 (h11 ns i j) [] = .nx (k11 ns i j) [] := by kernel_rfl
abbrev two6 (P : Nat → Nat → Prop) : Prop := upto 6 fun i => upto 2 fun j => P i j
theorem t4 (ns : List Int) : two6 fun i j => XL 4 (k11 ns i j) [] = .nx (k11 ns i j) [] := by
  refine uptoS (uptoS (uptoS (uptoS (uptoS (uptoS upto0 ?_) ?_) ?_) ?_) ?_) ?_ <;> refine uptoS (uptoS upto0 ?_) ?_ <;> kernel_rfl
theorem t5 (ns : List Int) : two6 fun i j => XL 5 (k11 ns i j) [] = .nx (k11 ns i j) [] := by
  refine uptoS (uptoS (uptoS (uptoS (uptoS (uptoS upto0 ?_) ?_) ?_) ?_) ?_) ?_ <;> refine uptoS (uptoS upto0 ?_) ?_ <;> kernel_rfl
theorem t6 (ns : List Int) : two6 fun i j => XL 6 (k11 ns i j) [] = .nx (k11 ns i j) [] := by
  refine uptoS (uptoS (uptoS (uptoS (uptoS (uptoS upto0 ?_) ?_) ?_) ?_) ?_) ?_ <;> refine uptoS (uptoS upto0 ?_) ?_ <;> kernel_rfl
theorem t7 (ns : List Int) : two6 fun i j => XL 7 (k11 ns i j) [] = .nx (k11 ns i j) [] := by
  refine uptoS (uptoS (uptoS (uptoS (uptoS (uptoS upto0 ?_) ?_) ?_) ?_) ?_) ?_ <;> refine uptoS (uptoS upto0 ?_) ?_ <;> kernel_rfl
theorem t8 (ns : List Int) : two6 fun i j => XL 8 (k11 ns i j) [] = .nx (k11 ns i j) [] := by
  refine uptoS (uptoS (uptoS (uptoS (uptoS (uptoS upto0 ?_) ?_) ?_) ?_) ?_) ?_ <;> refine uptoS (uptoS upto0 ?_) ?_ <;> kernel_rfl
theorem t9 (ns : List Int) : two6 fun i j => XL 9 (k11 ns i j) [] = .nx (k11 ns i j) [] := by
  refine uptoS (uptoS (uptoS (uptoS (uptoS (uptoS upto0 ?_) ?_) ?_) ?_) ?_) ?_ <;> refine uptoS (uptoS upto0 ?_) ?_ <;> kernel_rfl
theorem t10 (ns : List Int) (i j : Nat) : XL 10 (k11 ns i j) [] = .nx ((k11 ns i j).set 6 (some (.d (.int (2 + cellF ns 2 % 3))))) [] := by kernel_rfl
theorem t11 (ns : List Int) (i j : Nat) (x : Int) : XL 11 ((k11 ns i j).set 6 (some (.d (.int (2 + x))))) [] = .nx (l11 ns i j x (cellF ns 3 % 5)) [] := by kernel_rfl
theorem t12_00 (ns : List Int) : upto 3 fun x => upto 5 fun y => XL 12 (l11 ns 0 0 (Int.ofNat x) (Int.ofNat y)) [] = .nx (l11 ns 0 0 (Int.ofNat x) (Int.ofNat y)) [] := by
  refine uptoS (uptoS (uptoS upto0 ?_) ?_) ?_ <;> refine uptoS (uptoS (uptoS (uptoS (uptoS upto0 ?_) ?_) ?_) ?_) ?_ <;> kernel_rfl
theorem t13_00 (ns : List Int) (x y : Int) : isTS (exB CL 47 60 IL.sc IL.qual (l11 ns 0 0 x y) [sL 13, sL 14, sL 15, sL 16, sL 17] []) = true := by kernel_rfl
theorem t12_01 (ns : List Int) : upto 3 fun x => upto 5 fun y => XL 12 (l11 ns 0 1 (Int.ofNat x) (Int.ofNat y)) [] = .nx (l11 ns 0 1 (Int.ofNat x) (Int.ofNat y)) [] := by
  refine uptoS (uptoS (uptoS upto0 ?_) ?_) ?_ <;> refine uptoS (uptoS (uptoS (uptoS (uptoS upto0 ?_) ?_) ?_) ?_) ?_ <;> kernel_rfl
theorem t13_01 (ns : List Int) (x y : Int) : isTS (exB CL 47 60 IL.sc IL.qual (l11 ns 0 1 x y) [sL 13, sL 14, sL 15, sL 16, sL 17] []) = true := by kernel_rfl
theorem t12_10 (ns : List Int) : upto 3 fun x => upto 5 fun y => XL 12 (l11 ns 1 0 (Int.ofNat x) (Int.ofNat y)) [] = .nx (l11 ns 1 0 (Int.ofNat x) (Int.ofNat y)) [] := by
  refine uptoS (uptoS (uptoS upto0 ?_) ?_) ?_ <;> refine uptoS (uptoS (uptoS (uptoS (uptoS upto0 ?_) ?_) ?_) ?_) ?_ <;> kernel_rfl
theorem t13_10 (ns : List Int) (x y : Int) : isTS (exB CL 47 60 IL.sc IL.qual (l11 ns 1 0 x y) [sL 13, sL 14, sL 15, sL 16, sL 17] []) = true := by kernel_rfl
theorem t12_11 (ns : List Int) : upto 3 fun x => upto 5 fun y => XL 12 (l11 ns 1 1 (Int.ofNat x) (Int.ofNat y)) [] = .nx (l11 ns 1 1 (Int.ofNat x) (Int.ofNat y)) [] := by
  refine uptoS (uptoS (uptoS upto0 ?_) ?_) ?_ <;> refine uptoS (uptoS (uptoS (uptoS (uptoS upto0 ?_) ?_) ?_) ?_) ?_ <;> kernel_rfl
theorem t13_11 (ns : List Int) (x y : Int) : isTS (exB CL 47 60 IL.sc IL.qual (l11 ns 1 1 x y) [sL 13, sL 14, sL 15, sL 16, sL 17] []) = true := by kernel_rfl
theorem t12_20 (ns : List Int) : upto 3 fun x => upto 5 fun y => XL 12 (l11 ns 2 0 (Int.ofNat x) (Int.ofNat y)) [] = .nx (l11 ns 2 0 (Int.ofNat x) (Int.ofNat y)) [] := by
  refine uptoS (uptoS (uptoS upto0 ?_) ?_) ?_ <;> refine uptoS (uptoS (uptoS (uptoS (uptoS upto0 ?_) ?_) ?_) ?_) ?_ <;> kernel_rfl
theorem t13_20 (ns : List Int) (x y : Int) : isTS (exB CL 47 60 IL.sc IL.qual (l11 ns 2 0 x y) [sL 13, sL 14, sL 15, sL 16, sL 17] []) = true := by kernel_rfl
theorem t12_21 (ns : List Int) : upto 3 fun x => upto 5 fun y => XL 12 (l11 ns 2 1 (Int.ofNat x) (Int.ofNat y)) [] = .nx (l11 ns 2 1 (Int.ofNat x) (Int.ofNat y)) [] := by
  refine uptoS (uptoS (uptoS upto0 ?_) ?_) ?_ <;> refine uptoS (uptoS (uptoS (uptoS (uptoS upto0 ?_) ?_) ?_) ?_) ?_ <;> kernel_rfl
theorem t13_21 (ns : List Int) (x y : Int) : isTS (exB CL 47 60 IL.sc IL.qual (l11 ns 2 1 x y) [sL 13, sL 14, sL 15, sL 16, sL 17] []) = true := by kernel_rfl
theorem t12_30 (ns : List Int) : upto 3 fun x => upto 5 fun y => XL 12 (l11 ns 3 0 (Int.ofNat x) (Int.ofNat y)) [] = .nx (l11 ns 3 0 (Int.ofNat x) (Int.ofNat y)) [] := by
  refine uptoS (uptoS (uptoS upto0 ?_) ?_) ?_ <;> refine uptoS (uptoS (uptoS (uptoS (uptoS upto0 ?_) ?_) ?_) ?_) ?_ <;> kernel_rfl
theorem t13_30 (ns : List Int) (x y : Int) : isTS (exB CL 47 60 IL.sc IL.qual (l11 ns 3 0 x y) [sL 13, sL 14, sL 15, sL 16, sL 17] []) = true := by kernel_rfl
theorem t12_31 (ns : List Int) : upto 3 fun x => upto 5 fun y => XL 12 (l11 ns 3 1 (Int.ofNat x) (Int.ofNat y)) [] = .nx (l11 ns 3 1 (Int.ofNat x) (Int.ofNat y)) [] := by
  refine uptoS (uptoS (uptoS upto0 ?_) ?_) ?_ <;> refine uptoS (uptoS (uptoS (uptoS (uptoS upto0 ?_) ?_) ?_) ?_) ?_ <;> kernel_rfl
theorem t13_31 (ns : List Int) (x y : Int) : isTS (exB CL 47 60 IL.sc IL.qual (l11 ns 3 1 x y) [sL 13, sL 14, sL 15, sL 16, sL 17] []) = true := by kernel_rfl
theorem t12_40 (ns : List Int) : upto 3 fun x => upto 5 fun y => XL 12 (l11 ns 4 0 (Int.ofNat x) (Int.ofNat y)) [] = .nx (l11 ns 4 0 (Int.ofNat x) (Int.ofNat y)) [] := by
  refine uptoS (uptoS (uptoS upto0 ?_) ?_) ?_ <;> refine uptoS (uptoS (uptoS (uptoS (uptoS upto0 ?_) ?_) ?_) ?_) ?_ <;> kernel_rfl
theorem t13_40 (ns : List Int) (x y : Int) : isTS (exB CL 47 60 IL.sc IL.qual (l11 ns 4 0 x y) [sL 13, sL 14, sL 15, sL 16, sL 17] []) = true := by kernel_rfl
theorem t12_41 (ns : List Int) : upto 3 fun x => upto 5 fun y => XL 12 (l11 ns 4 1 (Int.ofNat x) (Int.ofNat y)) [] = .nx (l11 ns 4 1 (Int.ofNat x) (Int.ofNat y)) [] := by
  refine uptoS (uptoS (uptoS upto0 ?_) ?_) ?_ <;> refine uptoS (uptoS (uptoS (uptoS (uptoS upto0 ?_) ?_) ?_) ?_) ?_ <;> kernel_rfl
theorem t13_41 (ns : List Int) (x y : Int) : isTS (exB CL 47 60 IL.sc IL.qual (l11 ns 4 1 x y) [sL 13, sL 14, sL 15, sL 16, sL 17] []) = true := by kernel_rfl
theorem t12_50 (ns : List Int) : upto 3 fun x => upto 5 fun y => XL 12 (l11 ns 5 0 (Int.ofNat x) (Int.ofNat y)) [] = .nx (l11 ns 5 0 (Int.ofNat x) (Int.ofNat y)) [] := by
  refine uptoS (uptoS (uptoS upto0 ?_) ?_) ?_ <;> refine uptoS (uptoS (uptoS (uptoS (uptoS upto0 ?_) ?_) ?_) ?_) ?_ <;> kernel_rfl
theorem t13_50 (ns : List Int) (x y : Int) : isTS (exB CL 47 60 IL.sc IL.qual (l11 ns 5 0 x y) [sL 13, sL 14, sL 15, sL 16, sL 17] []) = true := by kernel_rfl
theorem t12_51 (ns : List Int) : upto 3 fun x => upto 5 fun y => XL 12 (l11 ns 5 1 (Int.ofNat x) (Int.ofNat y)) [] = .nx (l11 ns 5 1 (Int.ofNat x) (Int.ofNat y)) [] := by
  refine uptoS (uptoS (uptoS upto0 ?_) ?_) ?_ <;> refine uptoS (uptoS (uptoS (uptoS (uptoS upto0 ?_) ?_) ?_) ?_) ?_ <;> kernel_rfl
theorem t13_51 (ns : List Int) (x y : Int) : isTS (exB CL 47 60 IL.sc IL.qual (l11 ns 5 1 x y) [sL 13, sL 14, sL 15, sL 16, sL 17] []) = true := by kernel_rfl
theorem t12 (ns : List Int) : two6 fun i j => upto 3 fun x => upto 5 fun y => XL 12 (l11 ns i j (Int.ofNat x) (Int.ofNat y)) [] = .nx (l11 ns i j (Int.ofNat x) (Int.ofNat y)) [] :=
  uptoS (uptoS (uptoS (uptoS (uptoS (uptoS (upto0) (uptoS (uptoS upto0 (t12_00 ns)) (t12_01 ns))) (uptoS (uptoS upto0 (t12_10 ns)) (t12_11 ns))) (uptoS (uptoS upto0 (t12_20 ns)) (t12_21 ns))) (uptoS (uptoS upto0 (t12_30 ns)) (t12_31 ns))) (uptoS (uptoS upto0 (t12_40 ns)) (t12_41 ns))) (uptoS (uptoS upto0 (t12_50 ns)) (t12_51 ns))
theorem t13 (ns : List Int) (x y : Int) : two6 fun i j => isTS (exB CL 47 60 IL.sc IL.qual (l11 ns i j x y) [sL 13, sL 14, sL 15, sL 16, sL 17] []) = true :=
  uptoS (uptoS (uptoS (uptoS (uptoS (uptoS (upto0) (uptoS (uptoS upto0 (t13_00 ns x y)) (t13_01 ns x y))) (uptoS (uptoS upto0 (t13_10 ns x y)) (t13_11 ns x y))) (uptoS (uptoS upto0 (t13_20 ns x y)) (t13_21 ns x y))) (uptoS (uptoS upto0 (t13_30 ns x y)) (t13_31 ns x y))) (uptoS (uptoS upto0 (t13_40 ns x y)) (t13_41 ns x y))) (uptoS (uptoS upto0 (t13_50 ns x y)) (t13_51 ns x y))
theorem body_ok : IL.body = [sL 0, sL 1, sL 2, sL 3, sL 4, sL 5, sL 6, sL 7, sL 8, sL 9, sL 10, sL 11, sL 12, sL 13, sL 14, sL 15, sL 16, sL 17] := by kernel_rfl
theorem plainL : ∀ ns : List Int, ns.length ≤ 63 → ∃ h', call GL 60 "law" [.d (.scr ns)] [] = .ok (.d (.bl true)) h' := by
  refine law_run (I := IL) cell_ok (by kernel_rfl) rfl fun ns _ => ?_
  rw [body_ok]
  show isTS (exB CL 60 60 IL.sc IL.qual (startE IL.N [.d (.scr ns)]) _ []) = true
  obtain ⟨i, hi, ei⟩ := mod_at (cellF ns 0) 6 (by decide)
  obtain ⟨j, hj, ej⟩ := mod_at (cellF ns 1) 2 (by decide)
  obtain ⟨x, hx, ex⟩ := mod_at (cellF ns 2) 3 (by decide)
  obtain ⟨y, hy, ey⟩ := mod_at (cellF ns 3) 5 (by decide)
  have a0 : XL 0 (startE IL.N [.d (.scr ns)]) [] = .nx (f11 ns i) [] := by rw [t0 ns, show cellF ns 0 % 6 = Int.ofNat i from ei]; rfl
  have a10 : XL 10 (k11 ns i j) [] = .nx ((k11 ns i j).set 6 (some (.d (.int (2 + Int.ofNat x))))) [] := by rw [t10 ns i j, show cellF ns 2 % 3 = Int.ofNat x from ex]
  have a11 : XL 11 ((k11 ns i j).set 6 (some (.d (.int (2 + Int.ofNat x))))) [] = .nx (l11 ns i j (Int.ofNat x) (Int.ofNat y)) [] := by rw [t11 ns i j, show cellF ns 3 % 5 = Int.ofNat y from ey]
  rw [exB_cons, seq_nx a0, exB_cons, seq_nx (t1 ns i hi), exB_cons, seq_nx (t2 ns i j hj ej), exB_cons, seq_nx (t3 ns i j), exB_cons, seq_nx (t4 ns i hi j hj), exB_cons, seq_nx (t5 ns i hi j hj), exB_cons, seq_nx (t6 ns i hi j hj), exB_cons, seq_nx (t7 ns i hi j hj), exB_cons, seq_nx (t8 ns i hi j hj), exB_cons, seq_nx (t9 ns i hi j hj), exB_cons, seq_nx a10, exB_cons, seq_nx a11, exB_cons, seq_nx (t12 ns i hi j hj x hx y hy)]
  exact t13 ns (Int.ofNat x) (Int.ofNat y) i hi j hj
abbrev RL : PySem.W.OpenRow := PySem.W.OpenLaw.row PySem.Challenge.rw_keyreckon_k11_at_the_edges
abbrev hkL : PySem.W.Hook := hookK 6 bodyL
def obL (s : PySem.W.SharedT) : He.AlD := obsKG 6 bodyL (HandSHeadRun.getT s)
theorem ob_eqL (s : PySem.W.SharedT) : obL s = hkL.obs s.abs := obsKG_eq (HandSHeadRun.getT_eq s)
def namesL : List Str := (namesOf bodyL).filter fun x => !decide (x = "law")
theorem runL (w : World) : HandSHeadRun.RunEq RL (PySem.W.view RL.prog [56]) hkL obL 4000 namesL w := by
  intro os
  kernel_rfl
theorem stL_ok : statB bodyL = true := by kernel_rfl
end KR
open PySem PySem.W PySem.Calls PyProof.Rows
theorem PySem.Challenge.cw_keyreckon_k11_at_the_edges_holds : PySem.Challenge.rw_keyreckon_k11_at_the_edges.Holds := by
  w_on; o_law
  refine HandSHeadRun.head_any (r := OpenLaw.row PySem.Challenge.rw_keyreckon_k11_at_the_edges) (q := view (OpenLaw.row PySem.Challenge.rw_keyreckon_k11_at_the_edges).prog [56]) (H := KR.hkL) (ob := KR.obL) (M := 4000) (loose := KR.namesL) (d := HandSHeadRun.topDef (OpenLaw.row PySem.Challenge.rw_keyreckon_k11_at_the_edges).prog 56) (kwd := []) KR.ob_eqL
    (by kernel_rfl) (fun s => by kernel_rfl) KR.runL (by kernel_rfl) (by kernel_rfl) (by kernel_rfl) (by rfl) (by first | assumption | decide +kernel) (by decide +kernel) ⟨rfl, rfl, rfl, rfl, rfl, by decide +kernel⟩ ?hw ?hc
  case hw => w_witness2
  case hc =>
    refine L2.walk_ofE (l := PySem.Challenge.rw_keyreckon_k11_at_the_edges) (n := 63) (k := 121) (x := "_law_script") (CX := L2.CX0) rfl (by decide) (by kernel_rfl) ⟨rfl, by decide, by decide⟩ ?F (fun _ _ _ _ z => z)
    intro w mg fa h Y G hmg0
    obtain ⟨K, KX, c⟩ := Y
    have hmg : mg ("law" : PySem.Str) = some (.ref fa) := by
      have e : (HandSHeadRun.topDef (OpenLaw.row PySem.Challenge.rw_keyreckon_k11_at_the_edges).prog 56).name = ("law" : PySem.Str) := by kernel_rfl
      rw [← e]
      exact hmg0
    obtain ⟨fd, sp, hb, h1, h2⟩ := KR.law_ok (P := PySem.Challenge.rw_keyreckon_k11_at_the_edges.prog) (w := w) (x := "_law_script") (I := KR.IL) (n := 63) KR.stL_ok (by kernel_rfl) (by kernel_rfl) (by kernel_rfl) KR.plainL KX G hmg c
    exact ⟨K, fd, sp, KX, hb, fun H a ns hl _ hS => h1 H a ns hl hS, h2⟩
