import PyProof.Rows.All
import PyProof.TableCode
import PyProof.RulesRaise
import PyProof.Rows.Frame
import PyProof.FactsAll.list_0
import PyProof.FactsAll.list_3
import PyProof.ForAny
import PyProof.Cells
import PyProof.PlainList
import PyProof.PassesOwn
import PyProof.StrWalks
import PyProof.CompFree
import PyProof.PureInt
import PyProof.EqKinds
import PyProof.NeKinds
import PyProof.ExcFactsAll.ValueError
import PyProof.StationsW
import PyProof.SliceStr2
import PyProof.StrBlock
import PyProof.WalksMore
import PyProof.ForRange
import PyProof.WalkInts
import PyProof.Rows.Globals
import PyProof.Rows.News
import PyProof.Rows.Tup
import PyProof.Rows.TupIter
import PyProof.Rows.TupAssign
import PyProof.Rows.TupSub
import PyProof.Rows.Lst
import PyProof.Rows.TupIn
import PyProof.Rows.IntRules
import PyProof.Rows.CellsFrame
import PyProof.Rows.StrNews
import PyProof.Rows.Many
import PyProof.Rows.Exc
import PyProof.Rows.Chain
import PyProof.Rows.RuleB_floordiv
import PyProof.Rows.Method
import PyProof.StrCalls6
import PyProof.Rows.StrTemp
import PyProof.Rows.RuleB_small
import PyProof.SliceMore
import PyProof.Rows.StrRules
import PyProof.TypeOfCall
import Wide.Head
import Wide.BytesRules
import Open.Line
import KE.KxBytes
import KE.BytesMake
import KE.BytesMulAny
import KE.KBytesCut
import Wide.All
import PySem.Challenge.RW_sx_r050_1o
set_option Elab.async false
set_option linter.unusedSimpArgs false
set_option linter.unusedVariables false
set_option maxRecDepth 100000
namespace Mine
section
open PySem

/-- plain data -/
inductive D where
  | none
  | bool (b : Bool)
  | int (i : Int)
  | str (x : Str)
  | bytes (l : List UInt8)
  | typ (n : String)
  | tup (ds : List D)
  | lst (ds : List D)

/-- what a step gives: a value, a ValueError, or nothing that we speak of -/
inductive R (α : Type) where
  | ok (a : α)
  | raise
  | stuck

noncomputable def R.bind {α β : Type} : R α → (α → R β) → R β
  | .ok a, f => f a
  | .raise, _ => .raise
  | .stuck, _ => .stuck

mutual
noncomputable def D.noList : D → Bool
  | .tup ds => D.noLists ds
  | .lst _ => false
  | _ => true
noncomputable def D.noLists : List D → Bool
  | [] => true
  | d :: ds => d.noList && D.noLists ds
end

/-- Python's ==, where we speak of it: no lists or tuples -/
noncomputable def eqA (d e : D) : Option Bool :=
  match d with
  | .none => (match e with | .none => some true | _ => Option.none)
  | .bool a => (match e with | .bool b => some (a == b) | _ => Option.none)
  | .int a => (match e with | .int b => some (a == b) | _ => Option.none)
  | .str a => (match e with | .str b => some (a == b) | .bytes _ => some false | .tup _ => some false | .lst _ => some false | _ => Option.none)
  | .bytes a => (match e with | .bytes b => some (a == b) | .str _ => some false | _ => Option.none)
  | .tup _ => (match e with | .str _ => some false | _ => Option.none)
  | .lst _ => (match e with | .str _ => some false | _ => Option.none)
  | _ => Option.none
noncomputable def eqL (f : D → D → Option Bool) : List D → List D → Option Bool
  | [], [] => some true
  | a :: as, b :: bs => match f a b, eqL f as bs with
    | some x, some y => some (x && y)
    | _, _ => Option.none
  | _, _ => some false
/-- .. and n deep -/
noncomputable def eqD (n : Nat) (d e : D) : Option Bool :=
  match n with
  | 0 => eqA d e
  | n + 1 => match d with
    | .tup a => (match e with | .tup b => eqL (eqD n) a b | e => eqA (.tup a) e)
    | .lst a => (match e with | .lst b => eqL (eqD n) a b | e => eqA (.lst a) e)
    | d => eqA d e

noncomputable def clip (n : Nat) (i : Int) : Nat := if i < 0 then (i + n).toNat else min i.toNat n
noncomputable def cut {α : Type} (l : List α) (lo hi : Option Int) : List α :=
  (l.drop (lo.elim 0 (clip l.length))).take (hi.elim l.length (clip l.length) - lo.elim 0 (clip l.length))

noncomputable def big : Int := 18446744073709551616
noncomputable def line : Nat := 16777216

/-- two ints -/
noncomputable def intsD (f : Int → Int → R D) (a b : D) : R D :=
  match a with
  | .int a => (match b with | .int b => f a b | _ => .stuck)
  | _ => .stuck
noncomputable def addD (a b : D) : R D :=
  match a with
  | .int a => (match b with | .int b => .ok (.int (a + b)) | _ => .stuck)
  | .bytes a => (match b with | .bytes b => if a.length + b.length ≤ line then .ok (.bytes (a ++ b)) else .stuck | _ => .stuck)
  | .str a => (match b with | .str b => if a.length + b.length ≤ line then .ok (.str (a ++ b)) else .stuck | _ => .stuck)
  | _ => .stuck
noncomputable def mulD (a b : D) : R D :=
  match a with
  | .int a => (match b with | .int b => if (-big < a ∧ a < big) ∨ (-big < b ∧ b < big) then .ok (.int (a * b)) else .stuck | _ => .stuck)
  | .bytes a => (match b with | .int n => if a.length ≤ 16 ∧ 0 ≤ n ∧ n ≤ 1000 then .ok (.bytes (List.replicate n.toNat a).flatten) else .stuck | _ => .stuck)
  | _ => .stuck
noncomputable def binD (op : Operator) (a b : D) : R D :=
  match op with
  | .Add => addD a b
  | .Sub => intsD (fun a b => .ok (.int (a - b))) a b
  | .Mult => mulD a b
  | .FloorDiv => intsD (fun a b => if 0 < b ∧ b < 1073741824 then .ok (.int (a / b)) else .stuck) a b
  | .Mod => intsD (fun a b => if 0 < b then .ok (.int (a % b)) else .stuck) a b
  | .Pow => intsD (fun a b => if 0 ≤ b ∧ b ≤ 1000 ∧ -big < a ∧ a < big then .ok (.int (a ^ b.toNat)) else .stuck) a b
  | _ => .stuck

noncomputable def isInt : D → Bool
  | .int _ => true
  | _ => false
noncomputable def hitI (i : Int) : D → Bool
  | .int j => i == j
  | _ => false
/-- an int in a tuple of ints -/
noncomputable def inT (i : Int) (ds : List D) : R Bool := if ds.all isInt then .ok (ds.any (hitI i)) else .stuck

noncomputable def ordD (f : Int → Int → Bool) (a b : D) : R Bool :=
  match a with
  | .int a => (match b with | .int b => .ok (f a b) | _ => .stuck)
  | _ => .stuck
noncomputable def isD (a b : D) : R Bool :=
  match a with
  | .none => (match b with | .none => .ok true | _ => .stuck)
  | .int _ => (match b with | .none => .ok false | _ => .stuck)
  | .typ a => (match b with | .typ b => .ok (a == b) | _ => .stuck)
  | _ => .stuck
noncomputable def inD (a b : D) : R Bool :=
  match a with
  | .int i => (match b with | .tup ds => inT i ds | _ => .stuck)
  | .str y => (match b with | .str x => .ok (Txt.contains x y) | _ => .stuck)
  | _ => .stuck
noncomputable def ninD (a b : D) : R Bool :=
  match a with
  | .int i => (match b with | .tup ds => (inT i ds).bind fun t => .ok !t | _ => .stuck)
  | _ => .stuck
noncomputable def eqR (o : Option Bool) : R Bool := match o with | some r => .ok r | Option.none => .stuck
noncomputable def neR (o : Option Bool) : R Bool := match o with | some r => .ok !r | Option.none => .stuck
noncomputable def cmpD (op : CmpOp) (a b : D) : R Bool :=
  match op with
  | .Lt => ordD (fun a b => decide (a < b)) a b
  | .LtE => ordD (fun a b => decide (a ≤ b)) a b
  | .Gt => ordD (fun a b => decide (a > b)) a b
  | .GtE => ordD (fun a b => decide (a ≥ b)) a b
  | .Eq => eqR (eqD 4 a b)
  | .NotEq => neR (eqD 4 a b)
  | .In => inD a b
  | .NotIn => ninD a b
  | .Is => isD a b
  | _ => .stuck

noncomputable def getR (o : Option D) : R D := match o with | some d => .ok d | Option.none => .stuck
noncomputable def idxD (a i : D) : R D :=
  match i with
  | .int i => (match a with
    | .tup ds => if 0 ≤ i ∧ i < 1000000 then getR ds[i.toNat]? else .stuck
    | .lst ds => if 0 ≤ i ∧ i < 1000000 then getR ds[i.toNat]? else .stuck
    | .bytes l => if 0 ≤ i ∧ l.length ≤ line then (match l[i.toNat]? with | some c => .ok (.int c.toNat) | Option.none => .stuck) else .stuck
    | _ => .stuck)
  | _ => .stuck

noncomputable def partD : D → R (Option Int)
  | .none => .ok Option.none
  | .int i => .ok (some i)
  | _ => .stuck

noncomputable def cutD (a : D) (lo hi : Option Int) : R D :=
  match a with
  | .bytes l => if l.length ≤ line then .ok (.bytes (cut l lo hi)) else .stuck
  | .lst ds => if ds.length ≤ 1000000 then .ok (.lst (cut ds lo hi)) else .stuck
  | .str x => if x.length ≤ 1000000 then .ok (.str (Txt.slice x lo hi)) else .stuck
  | _ => .stuck

noncomputable def byteInts : List D → Option (List UInt8)
  | [] => some []
  | .int i :: r => if 0 ≤ i ∧ i < 256 then (byteInts r).map (i.toNat.toUInt8 :: ·) else Option.none
  | _ :: _ => Option.none

noncomputable def allBytes : List D → Option (List (List UInt8))
  | [] => some []
  | .bytes l :: r => (allBytes r).map (l :: ·)
  | _ :: _ => Option.none

/-- the type's name -/
noncomputable def typD : D → R D
  | .tup _ => .ok (.typ "tuple")
  | .lst _ => .ok (.typ "list")
  | .int _ => .ok (.typ "int")
  | .bytes _ => .ok (.typ "bytes")
  | .str _ => .ok (.typ "str")
  | _ => .stuck

noncomputable def lenD : D → R D
  | .bytes l => if l.length ≤ line then .ok (.int l.length) else .stuck
  | .tup l => if l.length ≤ line then .ok (.int l.length) else .stuck
  | .lst l => if l.length ≤ line then .ok (.int l.length) else .stuck
  | .str x => if x.length ≤ line then .ok (.int x.length) else .stuck
  | _ => .stuck

noncomputable def bytesD : D → R D
  | .lst ds => if ds.length ≤ line then (match byteInts ds with | some l => .ok (.bytes l) | Option.none => .stuck) else .stuck
  | _ => .stuck

noncomputable def oneD (g : D → R D) : List D → R D
  | [d] => g d
  | _ => .stuck
noncomputable def twoD (g : Int → Int → Int) : List D → R D
  | [.int a, .int b] => .ok (.int (g a b))
  | _ => .stuck
noncomputable def minI (a b : Int) : Int := if b < a then b else a
noncomputable def maxI (a b : Int) : Int := if b > a then b else a
/-- the built-ins that are called by name -/
noncomputable def builtinD (f : Str) (ds : List D) : R D :=
  if f = Str.ofString "len" then oneD lenD ds
  else if f = Str.ofString "bytes" then oneD bytesD ds
  else if f = Str.ofString "type" then oneD typD ds
  else if f = Str.ofString "min" then twoD minI ds
  else if f = Str.ofString "max" then twoD maxI ds
  else .stuck

noncomputable def joinD (d : D) : R D :=
  match d with
  | .lst ds => match allBytes ds with
    | some ls => if ds ≠ [] ∧ ds.length ≤ 1000 ∧ ls.flatten.length ≤ line then .ok (.bytes ls.flatten) else .stuck
    | Option.none => .stuck
  | _ => .stuck
/-- x.replace('..', '..') of two written texts -/
noncomputable def replD (o : D) (name : Str) (y z : Str) : R D :=
  match o with
  | .str x => if name = Str.ofString "replace" ∧ (y == z) = false ∧ x.length + (x.length + 1) * z.length ≤ line then .ok (.str (Txt.replace x y z)) else .stuck
  | _ => .stuck
noncomputable def strPair : List Expr → Option (Str × Str)
  | [.Constant (.str y) _ _, .Constant (.str z) _ _] => some (y, z)
  | _ => Option.none

/-- the state of a frame: its names, and one list that the frame appends to -/
structure PS where
  rho : List (Str × D)
  own : Option (Str × List D)

noncomputable def look (l : List (Str × D)) (x : Str) : Option D :=
  match l with
  | [] => Option.none
  | (y, d) :: r => if y = x then some d else look r x
noncomputable def put (l : List (Str × D)) (x : Str) (d : D) : List (Str × D) :=
  match l with
  | [] => [(x, d)]
  | (y, e) :: r => if y = x then (y, d) :: r else (y, e) :: put r x d

noncomputable def PS.get (s : PS) (x : Str) : Option D :=
  match s.own with
  | Option.none => look s.rho x
  | some (y, ds) => if y = x then some (.lst ds) else look s.rho x

noncomputable def PS.set (s : PS) (x : Str) (d : D) : Option PS :=
  match s.own with
  | Option.none => some ⟨put s.rho x d, Option.none⟩
  | some (y, ds) => if y = x then some ⟨put s.rho x d, Option.none⟩ else if d.noList then some ⟨put s.rho x d, some (y, ds)⟩ else Option.none

inductive Out where
  | next (s : PS)
  | ret (d : D)
  | raise
  | stuck

structure Cfg where
  F : Str → List D → R D
  fns : List Str        -- the defs of the text's that are called
  G : Str → Option D
  B : List Str          -- built-in names that no global hides
  sc : Scope

noncomputable def Cfg.kind (C : Cfg) (x : Str) : Option NameKind := C.sc.names.lookup x

noncomputable def constD : Const → R D
  | .none => .ok .none
  | .bool b => .ok (.bool b)
  | .int i => .ok (.int i)
  | .str x => .ok (.str x)
  | .bytes l => .ok (.bytes l)
  | _ => .stuck

noncomputable def nameD (C : Cfg) (s : PS) (x : Str) : R D :=
  if x = Str.ofString "__debug__" then .stuck else
  match C.kind x with
  | some .local => (match s.get x with | some d => .ok d | Option.none => .stuck)
  | some .globalImplicit => (match C.G x with | some d => .ok d | Option.none => .stuck)
  | _ => .stuck

/-- the built-ins that may be called -/
noncomputable def callables : List Str := [Str.ofString "len", Str.ofString "bytes", Str.ofString "type", Str.ofString "min", Str.ofString "max"]
noncomputable def calleeOk (C : Cfg) (f : Str) : Bool := !(f == Str.ofString "__debug__") && C.kind f == some .globalImplicit && (if C.B.contains f then callables.contains f else C.fns.contains f)
noncomputable def callD (C : Cfg) (f : Str) (ds : List D) : R D := if C.B.contains f then builtinD f ds else C.F f ds

noncomputable def plainBase : Expr → Bool
  | .Call _ _ _ _ => false
  | _ => true
/-- which methods we speak of -/
noncomputable def methOk (o : D) (name : Str) (n : Nat) : Bool :=
  match o with
  | .bytes [] => name == Str.ofString "join" && n == 1
  | _ => false
noncomputable def notStar : Expr → Bool
  | .Starred _ _ => false
  | _ => true
noncomputable def noStars (es : List Expr) : Bool := es.all notStar

noncomputable def sliceOf : Expr → Option (Option Expr × Option Expr)
  | .Slice lo hi Option.none _ => some (lo, hi)
  | _ => Option.none
noncomputable def negD : D → R D
  | .int i => .ok (.int (-i))
  | _ => .stuck

mutual
noncomputable def evE (C : Cfg) (n : Nat) (s : PS) (e : Expr) : R D :=
  match n with
  | 0 => .stuck
  | n + 1 =>
    match e with
    | .Constant c _ _ => constD c
    | .Name x _ => nameD C s x
    | .BinOp l op r _ => (evE C n s l).bind fun a => (evE C n s r).bind fun b => binD op a b
    | .UnaryOp op x _ => (match op with
      | .USub => (evE C n s x).bind negD
      | _ => .stuck)
    | .Compare l ops rs _ => (match ops, rs with
      | [op], [r] => if behindInMarks op r then .stuck else (evE C n s l).bind fun a => (evE C n s r).bind fun b => (cmpD op a b).bind fun t => .ok (.bool t)
      | _, _ => .stuck)
    | .Call f args kws p => (match kws with
      | [] => (match args with
        | [] => .stuck
        | a :: args => (match f with
          | .Name f _ => if noStars (a :: args) && calleeOk C f then (evEs C n s (a :: args)).bind fun ds => callD C f ds else .stuck
          | .Attribute o name ap =>
            if plainBase o && noStars (a :: args) && ap.endLine == p.line && decide ((a :: args).length < 30) then
              (evE C n s o).bind fun ov => match strPair (a :: args) with
                | some yz => replD ov name yz.1 yz.2
                | Option.none => if methOk ov name (a :: args).length then (evEs C n s (a :: args)).bind fun ds => oneD joinD ds else .stuck
            else .stuck
          | _ => .stuck))
      | _ => .stuck)
    | .Subscript v i _ => (match sliceOf i with
      | some lh => (evE C n s v).bind fun a => (evO C n s lh.1).bind fun l => (evO C n s lh.2).bind fun h => (partD l).bind fun l => (partD h).bind fun h => cutD a l h
      | Option.none => (evE C n s v).bind fun a => (evE C n s i).bind fun b => idxD a b)
    | .Tuple es _ _ => if es.length ≤ 1000 then (evEs C n s es).bind fun ds => .ok (.tup ds) else .stuck
    | .List es _ => if es.length ≤ 1000 then (evEs C n s es).bind fun ds => .ok (.lst ds) else .stuck
    | _ => .stuck
noncomputable def evEs (C : Cfg) (n : Nat) (s : PS) (es : List Expr) : R (List D) :=
  match n with
  | 0 => .stuck
  | n + 1 =>
    match es with
    | [] => .ok []
    | e :: r => (evE C n s e).bind fun d => (evEs C n s r).bind fun ds => .ok (d :: ds)
noncomputable def evO (C : Cfg) (n : Nat) (s : PS) (e : Option Expr) : R D :=
  match n with
  | 0 => .stuck
  | n + 1 =>
    match e with
    | Option.none => .ok .none
    | some e => evE C n s e
end

noncomputable def boolD : D → R Bool
  | .bool b => .ok b
  | _ => .stuck

/-- a chain of comparisons as a test -/
noncomputable def evChain (C : Cfg) (n : Nat) (s : PS) (a : D) : List CmpOp → List Expr → R Bool
  | [op], [r] => (evE C n s r).bind fun b => cmpD op a b
  | op :: op' :: ops, r :: r' :: rs => (evE C n s r).bind fun b => (cmpD op a b).bind fun t => if t then evChain C n s b (op' :: ops) (r' :: rs) else .ok false
  | _, _ => .stuck

mutual
noncomputable def evT (C : Cfg) (n : Nat) (s : PS) (e : Expr) : R Bool :=
  match n with
  | 0 => .stuck
  | n + 1 =>
    match e with
    | .UnaryOp op x _ => (match op with
      | .Not => (evT C n s x).bind fun b => .ok !b
      | _ => .stuck)
    | .BoolOp op vs _ => evTs C n s op vs
    | .Compare l ops cs _ => if lastMarks ops cs then .stuck else (evE C n s l).bind fun a => evChain C n s a ops cs
    | .Name x _ => (nameD C s x).bind boolD
    | .Call f args kws p => (evE C n s (.Call f args kws p)).bind boolD
    | _ => .stuck
noncomputable def evTs (C : Cfg) (n : Nat) (s : PS) (op : BoolOp) (es : List Expr) : R Bool :=
  match n with
  | 0 => .stuck
  | n + 1 =>
    match op with
    | .And => (match es with
      | [] => .ok true
      | e :: r => (evT C n s e).bind fun b => if b then evTs C n s .And r else .ok false)
    | .Or => (match es with
      | [] => .ok false
      | e :: r => (evT C n s e).bind fun b => if b then .ok true else evTs C n s .Or r)
end

noncomputable def notTup : Expr → Bool
  | .Tuple _ _ _ => false
  | _ => true
noncomputable def localName (C : Cfg) (x : Str) : Bool := C.kind x == some .local

/-- what is stored by a target -/
noncomputable def storeD (C : Cfg) (s : PS) (t : Expr) (d : D) : Option PS :=
  match t with
  | .Name x _ => if localName C x then s.set x d else Option.none
  | _ => Option.none
noncomputable def storeDs (C : Cfg) (s : PS) : List Expr → List D → Option PS
  | [], [] => some s
  | t :: ts, d :: ds => (storeD C s t d).bind fun s => storeDs C s ts ds
  | _, _ => Option.none
noncomputable def assignD (C : Cfg) (s : PS) (t : Expr) (d : D) : Option PS :=
  match t with
  | .Name x p => storeD C s (.Name x p) d
  | .Tuple ts _ _ => (match d with | .tup ds => storeDs C s ts ds | _ => Option.none)
  | _ => Option.none

noncomputable def rangeD (n : Int) : List D := (List.range n.toNat).map fun (i : Nat) => D.int (i : Int)
noncomputable def textSigns (x : Str) : List D := x.cps.toList.map fun c => D.str ⟨#[c]⟩

/-- the items of a value that a for goes over -/
noncomputable def itN (C : Cfg) (s : PS) (x : Str) (d : D) : R (List D) := match d with
  | .lst ds => if localName C x then (match s.own with | some (y, _) => if y = x then .stuck else .ok ds | Option.none => .ok ds) else .stuck
  | .tup ds => if D.noLists ds then .ok ds else .stuck
  | .str x => if x.cps.all (· < 128) then .ok (textSigns x) else .stuck
  | _ => .stuck
noncomputable def itR (d : D) : R (List D) := match d with | .int i => if -1000 ≤ i ∧ i ≤ 1000 then .ok (rangeD i) else .stuck | _ => .stuck
noncomputable def itS (d : D) : R (List D) := match d with | .tup ds => if D.noLists ds then .ok ds else .stuck | _ => .stuck
noncomputable def rangeOf : Expr → Option (Str × Expr)
  | .Call (.Name f _) [a] [] _ => some (f, a)
  | _ => Option.none
/-- the items that a for goes over -/
noncomputable def iterD (C : Cfg) (n : Nat) (s : PS) (e : Expr) : R (List D) :=
  match e with
  | .Name x _ => (nameD C s x).bind (itN C s x)
  | .Call f as ks p => (match rangeOf (.Call f as ks p) with
    | some fa => if fa.1 = Str.ofString "range" ∧ C.kind fa.1 = some .globalImplicit ∧ C.B.contains fa.1 ∧ notStar fa.2 then (evE C n s fa.2).bind itR else .stuck
    | Option.none => .stuck)
  | .Subscript v i p => (evE C n s (.Subscript v i p)).bind itS
  | _ => .stuck

noncomputable def Out.ofR (r : R D) (k : D → Out) : Out := match r with | .ok d => k d | .raise => .raise | .stuck => .stuck
noncomputable def Out.ofB (r : R Bool) (k : Bool → Out) : Out := match r with | .ok d => k d | .raise => .raise | .stuck => .stuck
noncomputable def Out.ofS (r : Option PS) : Out := match r with | some s => .next s | Option.none => .stuck

noncomputable def forP (C : Cfg) (t : Expr) (body : PS → Out) : List D → PS → Out
  | [], s => .next s
  | d :: ds, s => match assignD C s t d with
    | Option.none => .stuck
    | some s => match body s with
      | .next s => forP C t body ds s
      | o => o

noncomputable def whileP (test : PS → R Bool) (body : PS → Out) : Nat → PS → Out
  | 0, _ => .stuck
  | k + 1, s => Out.ofB (test s) fun b => if b then (match body s with | .next s => whileP test body k s | o => o) else .next s

noncomputable def isVE (C : Cfg) (x : Str) : Bool := x == Str.ofString "ValueError" && C.kind x == some .globalImplicit && C.B.contains x

/-- x.append(a) -/
noncomputable def appOf : Expr → Option (Str × Str × Pos × Expr × Pos)
  | .Call (.Attribute (.Name x _) name ap) [a] [] cp => some (x, name, ap, a, cp)
  | _ => Option.none
noncomputable def listOf : Expr → Option (List Expr)
  | .List es _ => some es
  | _ => Option.none
noncomputable def appO (r : R D) (s : PS) (x : Str) (ds : List D) : Out := Out.ofR r fun d => if d.noList then .next ⟨s.rho, some (x, ds ++ [d])⟩ else .stuck
noncomputable def ownO (r : R (List D)) (s : PS) (x : Str) : Out :=
  match s.own with
  | Option.none => (match r with
    | .ok ds => if D.noLists ds ∧ ds.length ≤ 1000 then .next ⟨s.rho.filter (fun p => !(p.1 == x)), some (x, ds)⟩ else .stuck
    | .raise => .raise
    | .stuck => .stuck)
  | some _ => .stuck
noncomputable def asgO (r : R D) (C : Cfg) (s : PS) (t : Expr) : Out := Out.ofR r fun d => Out.ofS (assignD C s t d)
noncomputable def expS (C : Cfg) (n : Nat) (s : PS) (e : Expr) : Out :=
  match appOf e with
  | some (x, name, ap, a, cp) =>
    if name = Str.ofString "append" ∧ localName C x ∧ notStar a ∧ (ap.endLine == cp.line) ∧ ¬ x = Str.ofString "__debug__" then
      match s.own with
      | some (y, ds) => if y = x ∧ ds.length ≤ 1000000 then appO (evE C n s a) s y ds else .stuck
      | Option.none => .stuck
    else .stuck
  | Option.none => .stuck
noncomputable def asgS (C : Cfg) (n : Nat) (s : PS) (t e : Expr) : Out :=
  match t with
  | .Name x p => (match listOf e with
    | some es => if localName C x then ownO (evEs C n s es) s x else .stuck
    | Option.none => asgO (evE C n s e) C s (.Name x p))
  | .Tuple ts k p => if notTup e then asgO (evE C n s e) C s (.Tuple ts k p) else .stuck
  | _ => .stuck
noncomputable def rsO (r : R D) : Out := match r with | .ok d => (match d with | .str _ => .raise | _ => .stuck) | .raise => .raise | .stuck => .stuck
noncomputable def raiseS (C : Cfg) (n : Nat) (s : PS) (e : Expr) : Out :=
  match rangeOf e with
  | some xa => if isVE C xa.1 && notStar xa.2 then rsO (evE C n s xa.2) else .stuck
  | Option.none => .stuck
/-- x = e -/
noncomputable def asgOf : List Stmt → Option (Str × Pos × Expr)
  | [.Assign [.Name x p] e _] => some (x, p, e)
  | _ => Option.none
noncomputable def constOf : Expr → Option Const
  | .Constant c _ _ => some c
  | _ => Option.none
/-- except v: y = c -/
noncomputable def excOf : List ExceptHandler → Option (Str × List Stmt)
  | [.ExceptHandler (some (.Name v _)) Option.none b _] => some (v, b)
  | _ => Option.none
noncomputable def tryO (r : R D) (C : Cfg) (s : PS) (t t' : Expr) (c : Const) : Out := match r with
  | .ok d => Out.ofS (assignD C s t d)
  | .raise => Out.ofR (constD c) fun d => Out.ofS (assignD C s t' d)
  | .stuck => .stuck
noncomputable def tryS (C : Cfg) (n : Nat) (s : PS) (b : List Stmt) (h : List ExceptHandler) : Out :=
  match asgOf b with
  | some (x, p, e) => (match excOf h with
    | some (v, hb) => (match asgOf hb with
      | some (y, q, e') => (match constOf e' with
        | some c => if isVE C v then tryO (evE C n s e) C s (.Name x p) (.Name y q) c else .stuck
        | Option.none => .stuck)
      | Option.none => .stuck)
    | Option.none => .stuck)
  | Option.none => .stuck
noncomputable def Out.ofL (r : R (List D)) (k : List D → Out) : Out := match r with | .ok d => k d | .raise => .raise | .stuck => .stuck

mutual
noncomputable def exec (C : Cfg) (n : Nat) (s : PS) (st : Stmt) : Out :=
  match n with
  | 0 => .stuck
  | n + 1 =>
    match st with
    | .Expr e _ => expS C n s e
    | .Assign ts e _ => (match ts with | [t] => asgS C n s t e | _ => .stuck)
    | .If t b o _ => Out.ofB (evT C n s t) fun c => if c then execs C n s b else execs C n s o
    | .While t b o _ => (match o with | [] => whileP (fun s => evT C n s t) (fun s => execs C n s b) 500 s | _ => .stuck)
    | .For t it b o _ => (match o with | [] => Out.ofL (iterD C n s it) fun ds => forP C t (fun s => execs C n s b) ds s | _ => .stuck)
    | .Return e _ => (match e with | some e => Out.ofR (evE C n s e) .ret | Option.none => .stuck)
    | .Raise e c _ => (match e with | some e => (match c with | Option.none => raiseS C n s e | some _ => .stuck) | Option.none => .stuck)
    | .Try b h o f _ => (match o with | [] => (match f with | [] => tryS C n s b h | _ => .stuck) | _ => .stuck)
    | _ => .stuck
noncomputable def execs (C : Cfg) (n : Nat) (s : PS) (sts : List Stmt) : Out :=
  match n with
  | 0 => .stuck
  | n + 1 =>
    match sts with
    | [] => .next s
    | st :: r => match exec C n s st with
      | .next s => execs C n s r
      | o => o
end
end
end Mine
namespace Mine
section
open PySem

noncomputable def outR : Out → R D
  | .ret d => .ok d
  | .next _ => .ok .none
  | .raise => .raise
  | .stuck => .stuck

/-- a def of the text's -/
structure Fn where
  name : Str
  params : Arguments
  body : List Stmt
  scope : Scope

noncomputable def Fn.xs (d : Fn) : List Str := d.params.args.map (·.arg)
noncomputable def fnAt (p : Program) (i : Nat) : Fn :=
  match p.main.body[i]? with
  | some (.FunctionDef n a b _ _ _ sc _ _ _) => ⟨n, a, b, sc⟩
  | _ => ⟨Str.ofString "", { posonlyargs := [], args := [], vararg := none, kwonlyargs := [], kw_defaults := [], kwarg := none, defaults := [] }, [], { kind := .function, names := [], isGenerator := false, isCoroutine := false, more := [] }⟩

/-- a program, in the plain -/
structure Pg where
  tbl : List Fn
  nat : List (Str × (List D → R D))
  fns : List Str
  G : Str → Option D
  B : List Str

noncomputable def Fk (P : Pg) : Nat → Str → List D → R D
  | 0, _, _ => .stuck
  | k + 1, f, ds =>
    match P.nat.lookup f with
    | some g => g ds
    | none => match P.tbl.find? (fun d => decide (d.name = f)) with
      | some d => if ds.length = d.xs.length ∧ 1 ≤ ds.length then outR (execs ⟨Fk P k, P.fns, P.G, P.B, d.scope⟩ 100 ⟨d.xs.zip ds, none⟩ d.body) else .stuck
      | none => .stuck

theorem look_put (l : List (Str × D)) (x : Str) (d : D) (y : Str) : look (put l x d) y = if x = y then some d else look l y := by
  induction l with
  | nil =>
    unfold put look
    split <;> rfl
  | cons p r ih =>
    obtain ⟨z, e⟩ := p
    unfold put
    by_cases h : z = x
    · rw [if_pos h]
      subst h
      unfold look
      by_cases hy : z = y
      · rw [if_pos hy, if_pos hy]
      · rw [if_neg hy, if_neg hy, if_neg hy]
    · rw [if_neg h]
      unfold look
      rw [ih]
      by_cases hy : z = y
      · rw [if_pos hy, if_pos hy]
        subst hy
        rw [if_neg (fun e => h e.symm)]
      · rw [if_neg hy, if_neg hy]
theorem look_cons (z : Str) (e : D) (r : List (Str × D)) (y : Str) : look ((z, e) :: r) y = if z = y then some e else look r y := rfl
theorem look_filter (l : List (Str × D)) (x y : Str) : look (l.filter fun p => !(p.1 == x)) y = if x = y then none else look l y := by
  induction l with
  | nil => show none = _; split <;> rfl
  | cons p r ih =>
    obtain ⟨z, e⟩ := p
    by_cases h : z = x
    · subst h
      rw [List.filter_cons_of_neg (by simp), ih, look_cons]
      by_cases hy : z = y
      · rw [if_pos hy, if_pos hy]
      · rw [if_neg hy, if_neg hy, if_neg hy]
    · rw [List.filter_cons_of_pos (by simpa using h), look_cons, look_cons, ih]
      by_cases hy : z = y
      · rw [if_pos hy, if_pos hy]
        subst hy
        rw [if_neg (fun e => h e.symm)]
      · rw [if_neg hy, if_neg hy]

end
end Mine
namespace Mine
section
open PySem PySem.Calls PySem.Spec PyProof.Rows

/-! heaps: what is kept -/
noncomputable def fr (l : List Env) : List Addr := l.filterMap (·.frame)

structure Ext (fs : List Addr) (h h' : Heap) : Prop where
  keep : ∀ b o, b ∉ fs → h.get? b = some o → h'.get? b = some o
  slots : ∀ b o, h.get? b = some o → ∃ sl, h'.get? b = some { o with slots := sl }

theorem Ext.refl (fs : List Addr) (h : Heap) : Ext fs h h := ⟨fun _ _ _ e => e, fun _ o e => ⟨o.slots, e⟩⟩
theorem Ext.trans {fs : List Addr} {h₁ h₂ h₃ : Heap} (x : Ext fs h₁ h₂) (y : Ext fs h₂ h₃) : Ext fs h₁ h₃ :=
  ⟨fun b o n e => y.keep b o n (x.keep b o n e), fun b o e => by
    obtain ⟨_, e₁⟩ := x.slots b o e
    obtain ⟨sl, e₂⟩ := y.slots b _ e₁
    exact ⟨sl, e₂⟩⟩
theorem Ext.of_keeps {fs : List Addr} {h h' : Heap} (k : ∀ b o, h.get? b = some o → h'.get? b = some o) : Ext fs h h' :=
  ⟨fun b o _ e => k b o e, fun b o e => ⟨o.slots, k b o e⟩⟩
theorem Ext.push (fs : List Addr) (h : Heap) (o : Obj) : Ext fs h (h.push o) := .of_keeps fun _ _ e => Heap.get?_push_of_some _ e
theorem Ext.mono {fs gs : List Addr} {h h' : Heap} (x : Ext fs h h') (hs : ∀ a ∈ fs, a ∈ gs) : Ext gs h h' :=
  ⟨fun b o n e => x.keep b o (fun m => n (hs b m)) e, x.slots⟩
theorem Ext.tup {fs : List Addr} {h h' : Heap} {a : Addr} {items : Array Value} (x : Ext fs h h') (t : IsTup h a items) : IsTup h' a items := by
  obtain ⟨o, ho, hc, n, hd⟩ := t
  obtain ⟨sl, hs⟩ := x.slots a o ho
  exact ⟨_, hs, hc, n, hd⟩
theorem Ext.list {fs : List Addr} {h h' : Heap} {a : Addr} {items : Array Value} (x : Ext fs h h') (t : h.IsList a items) : h'.IsList a items := by
  obtain ⟨o, ho, hc, n, hd⟩ := t
  obtain ⟨sl, hs⟩ := x.slots a o ho
  exact ⟨_, hs, hc, n, hd⟩
theorem Ext.ns {fs : List Addr} {h h' : Heap} {a : Addr} {m : Str → Option Value} (x : Ext fs h h') (hn : h.Ns a m) : h'.Ns a m := by
  obtain ⟨o, es, ep, ho, hd, r⟩ := hn
  obtain ⟨sl, hs⟩ := x.slots a o ho
  exact ⟨_, es, ep, hs, hd, r⟩

/-! data in a heap; N: which addresses a list may have -/
mutual
inductive Rep (N : Addr → Prop) (h : Heap) : Value → D → Prop
  | none : Rep N h Value.none D.none
  | bool (b : Bool) : Rep N h (Value.bool b) (D.bool b)
  | int (i : Int) (t : Tok) : Rep N h (Value.int i t) (D.int i)
  | str (x : Str) (t : Tok) : Rep N h (Value.str x t) (D.str x)
  | bytes (l : List UInt8) (t : Tok) : Rep N h (Value.bytes l.toArray t) (D.bytes l)
  | typ (n : String) : Rep N h (Value.type n) (D.typ n)
  | tup {a : Addr} {vs : List Value} {ds : List D} : IsTup h a vs.toArray → RepL N h vs ds → Rep N h (Value.ref a) (D.tup ds)
  | lst {a : Addr} {vs : List Value} {ds : List D} : N a → h.IsList a vs.toArray → RepL N h vs ds → Rep N h (Value.ref a) (D.lst ds)
inductive RepL (N : Addr → Prop) (h : Heap) : List Value → List D → Prop
  | nil : RepL N h [] []
  | cons {v : Value} {vs : List Value} {d : D} {ds : List D} : Rep N h v d → RepL N h vs ds → RepL N h (v :: vs) (d :: ds)
end

mutual
theorem Rep.ext {N : Addr → Prop} {fs : List Addr} {h h' : Heap} (x : Ext fs h h') : ∀ {v : Value} {d : D}, Rep N h v d → Rep N h' v d
  | _, _, .none => .none
  | _, _, .bool b => .bool b
  | _, _, .int i t => .int i t
  | _, _, .str s t => .str s t
  | _, _, .bytes b t => .bytes b t
  | _, _, .typ n => .typ n
  | _, _, .tup t r => .tup (x.tup t) (RepL.ext x r)
  | _, _, .lst n t r => .lst n (x.list t) (RepL.ext x r)
theorem RepL.ext {N : Addr → Prop} {fs : List Addr} {h h' : Heap} (x : Ext fs h h') : ∀ {vs : List Value} {ds : List D}, RepL N h vs ds → RepL N h' vs ds
  | _, _, .nil => .nil
  | _, _, .cons a r => .cons (Rep.ext x a) (RepL.ext x r)
end
mutual
theorem Rep.imp {N M : Addr → Prop} {h : Heap} (x : ∀ a items, h.IsList a items → N a → M a) : ∀ {v : Value} {d : D}, Rep N h v d → Rep M h v d
  | _, _, .none => .none
  | _, _, .bool b => .bool b
  | _, _, .int i t => .int i t
  | _, _, .str s t => .str s t
  | _, _, .bytes b t => .bytes b t
  | _, _, .typ n => .typ n
  | _, _, .tup t r => .tup t (RepL.imp x r)
  | _, _, .lst n t r => .lst (x _ _ t n) t (RepL.imp x r)
theorem RepL.imp {N M : Addr → Prop} {h : Heap} (x : ∀ a items, h.IsList a items → N a → M a) : ∀ {vs : List Value} {ds : List D}, RepL N h vs ds → RepL M h vs ds
  | _, _, .nil => .nil
  | _, _, .cons a r => .cons (Rep.imp x a) (RepL.imp x r)
end
mutual
/-- data without a list does not ask about lists -/
theorem Rep.noList {N M : Addr → Prop} {h : Heap} : ∀ {v : Value} {d : D}, Rep N h v d → d.noList = true → Rep M h v d
  | _, _, .none, _ => .none
  | _, _, .bool b, _ => .bool b
  | _, _, .int i t, _ => .int i t
  | _, _, .str s t, _ => .str s t
  | _, _, .bytes b t, _ => .bytes b t
  | _, _, .typ n, _ => .typ n
  | _, _, .tup t r, e => .tup t (RepL.noList r (by simpa [D.noList] using e))
  | _, _, .lst n t r, e => by cases e
theorem RepL.noList {N M : Addr → Prop} {h : Heap} : ∀ {vs : List Value} {ds : List D}, RepL N h vs ds → D.noLists ds = true → RepL M h vs ds
  | _, _, .nil, _ => .nil
  | _, _, .cons a r, e => by
    simp only [D.noLists, Bool.and_eq_true] at e
    exact .cons (Rep.noList a e.1) (RepL.noList r e.2)
end
mutual
/-- a list at an address that the data does not hold may change -/
theorem Rep.but {N : Addr → Prop} {h h' : Heap} {c : Addr} (hN : ∀ a, N a → a ≠ c) (hl : ∃ items, h.IsList c items) (hs : ∀ b o, b ≠ c → h.get? b = some o → h'.get? b = some o) : ∀ {v : Value} {d : D}, Rep N h v d → Rep N h' v d
  | _, _, .none => .none
  | _, _, .bool b => .bool b
  | _, _, .int i t => .int i t
  | _, _, .str s t => .str s t
  | _, _, .bytes b t => .bytes b t
  | _, _, .typ n => .typ n
  | _, _, .tup (a := a) t r => .tup (by
      obtain ⟨o, ho, hc, r⟩ := t
      refine ⟨o, hs a o (fun e => ?_) ho, hc, r⟩
      obtain ⟨items, o', ho', hc', _⟩ := hl
      rw [e, ho'] at ho
      cases ho
      rw [hc'] at hc
      simp at hc) (RepL.but hN hl hs r)
  | _, _, .lst (a := a) n t r => .lst n (by
      obtain ⟨o, ho, hc, r⟩ := t
      exact ⟨o, hs a o (hN a n) ho, hc, r⟩) (RepL.but hN hl hs r)
theorem RepL.but {N : Addr → Prop} {h h' : Heap} {c : Addr} (hN : ∀ a, N a → a ≠ c) (hl : ∃ items, h.IsList c items) (hs : ∀ b o, b ≠ c → h.get? b = some o → h'.get? b = some o) : ∀ {vs : List Value} {ds : List D}, RepL N h vs ds → RepL N h' vs ds
  | _, _, .nil => .nil
  | _, _, .cons a r => .cons (Rep.but hN hl hs a) (RepL.but hN hl hs r)
end

theorem RepL.length {N : Addr → Prop} {h : Heap} {vs : List Value} {ds : List D} (r : RepL N h vs ds) : vs.length = ds.length := by
  induction vs generalizing ds with
  | nil => cases r; rfl
  | cons v vs ih => cases r with | cons _ r => rw [List.length_cons, List.length_cons, ih r]
theorem RepL.append {N : Addr → Prop} {h : Heap} {vs ws : List Value} {ds es : List D} (r : RepL N h vs ds) (q : RepL N h ws es) : RepL N h (vs ++ ws) (ds ++ es) := by
  induction vs generalizing ds with
  | nil => cases r; exact q
  | cons v vs ih => cases r with | cons a r => exact .cons a (ih r)
theorem RepL.get {N : Addr → Prop} {h : Heap} {vs : List Value} {ds : List D} (r : RepL N h vs ds) {k : Nat} {d : D} (hk : ds[k]? = some d) : ∃ v, vs[k]? = some v ∧ Rep N h v d := by
  induction vs generalizing ds k with
  | nil => cases r; simp at hk
  | cons v vs ih =>
    cases r with
    | cons a r =>
      cases k with
      | zero => simp at hk; subst hk; exact ⟨v, rfl, a⟩
      | succ k => simp at hk; obtain ⟨u, e, q⟩ := ih r hk; exact ⟨u, by simpa using e, q⟩
theorem RepL.drop {N : Addr → Prop} {h : Heap} {vs : List Value} {ds : List D} (r : RepL N h vs ds) (k : Nat) : RepL N h (vs.drop k) (ds.drop k) := by
  induction k generalizing vs ds with
  | zero => simpa using r
  | succ k ih =>
    cases r with
    | nil => simpa using RepL.nil
    | cons a r => simpa using ih r
theorem RepL.take {N : Addr → Prop} {h : Heap} {vs : List Value} {ds : List D} (r : RepL N h vs ds) (k : Nat) : RepL N h (vs.take k) (ds.take k) := by
  induction k generalizing vs ds with
  | zero => simpa using RepL.nil
  | succ k ih =>
    cases r with
    | nil => simpa using RepL.nil
    | cons a r => simpa using RepL.cons a (ih r)

/-! hidden parts -/
noncomputable def hide (h : Heap) : List Addr → Heap
  | [] => h
  | a :: r => (hide h r).update a fun o => { o with data := .freed }
theorem of_hide : ∀ (l : List Addr) {h : Heap} {b : Addr} {o : Obj}, (hide h l).get? b = some o → h.get? b = some o ∧ b ∉ l
  | [], _, _, _, e => ⟨e, by simp⟩
  | a :: r, h, b, o, e => by
    by_cases q : a = b
    · subst q
      exfalso
      unfold hide at e
      simp only [Heap.get?, Heap.update] at e
      rw [Array.getElem?_modify] at e
      simp only [if_true] at e
      cases hx : (hide h r).objs[a]? with
      | none => rw [hx] at e; simp at e
      | some o' => rw [hx] at e; simp at e
    · have e' : (hide h r).get? b = some o := by
        unfold hide at e
        rw [Heap.get?_update_other _ _ q] at e
        exact e
      have x := of_hide r e'
      exact ⟨x.1, by simp only [List.mem_cons, not_or]; exact ⟨fun z => q z.symm, x.2⟩⟩
theorem hide_get : ∀ (l : List Addr) {h : Heap} {b : Addr} {o : Obj}, h.get? b = some o → b ∉ l → (hide h l).get? b = some o
  | [], _, _, _, e, _ => e
  | a :: r, h, b, o, e, n => by
    unfold hide
    rw [Heap.get?_update_other _ _ (fun q => n (by simp [q]))]
    exact hide_get r e fun m => n (by simp [m])
theorem hide_none {l : List Addr} {h : Heap} {b : Addr} (m : b ∈ l) : (hide h l).get? b = none := by
  cases e : (hide h l).get? b with
  | none => rfl
  | some o => exact absurd m (of_hide l e).2
theorem hide_none' {l : List Addr} {h : Heap} {b : Addr} (m : h.get? b = none) : (hide h l).get? b = none := by
  cases e : (hide h l).get? b with
  | none => rfl
  | some o => rw [(of_hide l e).1] at m; cases m

theorem funFrames_rebase {h b₁ b₂ : Heap} : ∀ {l : List Env}, h.FunFrames b₁ l → (∀ a ∈ fr l, b₂.get? a = none) → h.FunFrames b₂ l
  | [], _, _ => trivial
  | env :: l, ⟨hk, ⟨L, o, hf, _, ho, hd⟩, hr⟩, n => ⟨hk, ⟨L, o, hf, n L (by simp [fr, hf]), ho, hd⟩, funFrames_rebase hr fun a m => n a (by
      unfold fr at m ⊢
      rw [List.filterMap_cons, hf]
      exact List.mem_cons_of_mem _ m)⟩
theorem funFrames_ext {fs : List Addr} {h h' b : Heap} {l : List Env} (x : Ext fs h h') (hl : h.FunFrames b l) : h'.FunFrames b l :=
  hl.of_keeps fun c o ho _ => by
    obtain ⟨sl, hs⟩ := x.slots c o ho
    exact ⟨_, hs, rfl⟩
theorem funFrames_tail {h b : Heap} {e : Env} {l : List Env} (hl : h.FunFrames b (e :: l)) : h.FunFrames b l := hl.2.2

/-! the world: what stands at the top -/
structure Wd where
  p : Program
  w : World
  base : Heap
  mg : Str → Option Value
  mb : Str → Option Value

structure Wd.Ok (W : Wd) : Prop where
  g : W.base.Ns mainGlobals W.mg
  b : W.base.Ns builtinsNs W.mb
  bi : ∀ x : Str, x ≠ "__name__" → W.mb x = bootBuiltins x
  nolimit : W.base.NoLimit

noncomputable abbrev Wd.M (W : Wd) : Model := model W.p W.w

/-- a frame, and what lies around it -/
structure Cx where
  W : Wd
  A : Around
  outer : List Env
  name : Str
  scope : Scope
  L : Addr
  a : Addr
  cd : Value
  g : Heap

noncomputable abbrev Cx.env (X : Cx) : Env := envOf X.name X.scope X.L X.a X.cd
noncomputable abbrev Cx.AA (X : Cx) : Around := X.A.deeper X.env
noncomputable abbrev Cx.fs (X : Cx) : List Addr := fr (X.env :: X.outer)
noncomputable abbrev Cx.M (X : Cx) : Model := model X.W.p X.W.w

theorem Cx.fs_eq (X : Cx) : X.fs = X.L :: fr X.outer := rfl

/-- every frame's names lie in a dict -/
noncomputable def Dicts (h : Heap) (l : List Env) : Prop := ∀ b ∈ fr l, ∃ o es n, h.get? b = some o ∧ o.data = .dict es n

structure Cx.Ok (X : Cx) (k : Nat) : Prop where
  w : X.W.Ok
  frames : X.A.frames = some X.outer
  handled : X.A.handled = none
  depth : X.A.depth + k < recursionLimit
  units : X.A.units + 100 * (k + 1) < cLine
  kind : X.scope.kind = .function
  baseg : X.W.base.StaysIn X.g
  newL : X.g.get? X.L = none
  outerg : X.g.FunFrames X.W.base X.outer
  outerd : Dicts X.g X.outer

noncomputable def Plain : Addr → Prop := fun _ => True
noncomputable def Off (oa : Option Addr) : Addr → Prop := fun a => oa ≠ some a

/-- the state of a frame -/
structure St (X : Cx) (q : PS) (oa : Option Addr) (h : Heap) : Prop where
  stays : X.W.base.StaysIn h
  frames : h.FunFrames X.W.base (X.env :: X.outer)
  ext : Ext (fr X.outer) X.g h
  loc : ∃ m, h.Ns X.L m ∧ (∀ x d, look q.rho x = some d → ∃ v, m x = some v ∧ Rep (Off oa) h v d) ∧
    (match q.own with
      | none => True
      | some (y, ds) => ∃ a vs, oa = some a ∧ m y = some (.ref a) ∧ h.PlainList a vs.toArray ∧ RepL (Off oa) h vs ds)
  own : ∀ a, oa = some a → X.g.get? a = none ∧ X.W.base.get? a = none ∧ a ∉ X.fs ∧ ∃ vs, h.PlainList a vs
  newL : X.g.get? X.L = none

/-- an exception in flight, made since g₀ -/
structure Raised (X : Cx) (g₀ : Heap) (e : Addr) (h' : Heap) : Prop where
  ext : Ext X.fs g₀ h'
  new : (hide g₀ X.fs).get? e = none
  frames : h'.FunFrames (hide g₀ X.fs) (X.env :: X.outer)
  exc : (∃ oe vs a0, h'.get? e = some oe ∧ oe.cls = .type "ValueError" ∧ oe.data = .fields vs ∧ vs[0]? = some a0 ∧ vs[1]? = some .none) ∨
    ∃ a0, h'.TracedW (hide g₀ X.fs) e (.type "ValueError") a0

/-- s' is s but for the heap, grown, and the tokens -/
noncomputable def Adv0 (X : Cx) (s s' : Shared) : Prop := ∃ h' tk, s' = { s with heap := h', toks := tk } ∧ Ext X.fs s.heap h'
structure Adv (X : Cx) (s s' : Shared) : Prop where
  zero : Adv0 X s s'
  tk : s.toks ≤ s'.toks
noncomputable def ERaise (X : Cx) (s : Shared) (e : Value) (s' : Shared) : Prop := ∃ ea h' tk, e = .ref ea ∧ s' = { s with heap := h', toks := tk } ∧ Raised X s.heap ea h'

theorem Adv0.refl {X : Cx} (s : Shared) : Adv0 X s s := ⟨s.heap, s.toks, rfl, .refl _ _⟩
theorem Adv0.trans {X : Cx} {s₁ s₂ s₃ : Shared} (x : Adv0 X s₁ s₂) (y : Adv0 X s₂ s₃) : Adv0 X s₁ s₃ := by
  obtain ⟨h₁, t₁, rfl, e₁⟩ := x
  obtain ⟨h₂, t₂, rfl, e₂⟩ := y
  exact ⟨h₂, t₂, rfl, e₁.trans e₂⟩
theorem Adv0.ext {X : Cx} {s s' : Shared} (x : Adv0 X s s') : Ext X.fs s.heap s'.heap := by
  obtain ⟨h₁, t₁, rfl, e₁⟩ := x
  exact e₁
theorem Adv0.toks {X : Cx} (s : Shared) (k : Nat) : Adv0 X s { s with toks := k } := ⟨s.heap, k, rfl, .refl _ _⟩
theorem Adv0.keeps {X : Cx} {s : Shared} {h' : Heap} {k : Nat} (x : ∀ b o, s.heap.get? b = some o → h'.get? b = some o) : Adv0 X s { s with heap := h', toks := k } := ⟨h', k, rfl, .of_keeps x⟩
theorem Adv.refl {X : Cx} (s : Shared) : Adv X s s := ⟨.refl s, Nat.le_refl _⟩
theorem Adv.trans {X : Cx} {s₁ s₂ s₃ : Shared} (x : Adv X s₁ s₂) (y : Adv X s₂ s₃) : Adv X s₁ s₃ := ⟨x.zero.trans y.zero, Nat.le_trans x.tk y.tk⟩
theorem Adv.ext {X : Cx} {s s' : Shared} (x : Adv X s s') : Ext X.fs s.heap s'.heap := x.zero.ext

theorem Raised.back {X : Cx} {g₀ g₁ : Heap} {e : Addr} {h' : Heap} (x : Ext X.fs g₀ g₁) (r : Raised X g₁ e h') : Raised X g₀ e h' := by
  have sub : ∀ b o, (hide g₀ X.fs).get? b = some o → (hide g₁ X.fs).get? b = some o := fun b o q => by
    obtain ⟨q1, q2⟩ := of_hide _ q
    exact hide_get _ (x.keep b o q2 q1) q2
  have non : ∀ b, (hide g₁ X.fs).get? b = none → (hide g₀ X.fs).get? b = none := fun b q => by
    cases e : (hide g₀ X.fs).get? b with
    | none => rfl
    | some o => rw [sub b o e] at q; cases q
  refine ⟨x.trans r.ext, non _ r.new, funFrames_rebase r.frames fun a m => hide_none m, ?_⟩
  rcases r.exc with y | ⟨a0, oe, vs, T, oT, ts, y1, y2, y3, y4, y5, y6⟩
  · exact .inl y
  · exact .inr ⟨a0, oe, vs, T, oT, ts, y1, y2, y3, y4, non _ y5, y6⟩

theorem ERaise.back {X : Cx} {s s₁ : Shared} {e : Value} {s' : Shared} (x : Adv0 X s s₁) (r : ERaise X s₁ e s') : ERaise X s e s' := by
  obtain ⟨h₁, t₁, rfl, e₁⟩ := x
  obtain ⟨ea, h', tk, rfl, rfl, r⟩ := r
  exact ⟨ea, h', tk, rfl, rfl, r.back e₁⟩

theorem St.adv {X : Cx} {q : PS} {oa : Option Addr} {h h' : Heap} (S : St X q oa h) (x : Ext X.fs h h') : St X q oa h' := by
  obtain ⟨m, hn, hl, ho⟩ := S.loc
  refine ⟨fun b o e => ?_, funFrames_ext x S.frames, ⟨fun b o n e => ?_, fun b o e => ?_⟩, ⟨m, x.ns hn, fun y d e => ?_, ?_⟩, fun a e => ?_, S.newL⟩
  · refine x.keep b o (fun hm => ?_) (S.stays b o e)
    rw [(S.frames.mem hm).1] at e
    cases e
  · refine x.keep b o ?_ (S.ext.keep b o n e)
    rw [X.fs_eq, List.mem_cons, not_or]
    refine ⟨fun q => ?_, n⟩
    rw [q, S.newL] at e
    cases e
  · obtain ⟨_, e₁⟩ := S.ext.slots b o e
    obtain ⟨sl, e₂⟩ := x.slots b _ e₁
    exact ⟨sl, e₂⟩
  · obtain ⟨v, hv, hr⟩ := hl y d e
    exact ⟨v, hv, hr.ext x⟩
  · cases hq : q.own with
    | none => trivial
    | some p =>
      obtain ⟨y, ds⟩ := p
      rw [hq] at ho
      obtain ⟨a, vs, e1, e2, ⟨n, e3⟩, e4⟩ := ho
      exact ⟨a, vs, e1, e2, ⟨n, x.keep a _ (S.own a e1).2.2.1 e3⟩, e4.ext x⟩
  · obtain ⟨o1, o2, o3, vs, n, o4⟩ := S.own a e
    exact ⟨o1, o2, o3, vs, n, x.keep a _ o3 o4⟩
end
end Mine
namespace Mine
section
open PySem PySem.Calls PySem.Spec PyProof.Rows

noncomputable def Post {α β : Type} (X : Cx) (s : Shared) (r : R β) (rel : Heap → α → β → Prop) (a : α) (s' : Shared) : Prop := ∃ b, r = .ok b ∧ Adv0 X s s' ∧ rel s'.heap a b
noncomputable def Exc {β : Type} (X : Cx) (s : Shared) (r : R β) (e : Value) (s' : Shared) : Prop := r = .raise ∧ ERaise X s e s'
/-- a tree gives what r says -/
noncomputable def Ev {α β : Type} (X : Cx) (t : Sem α) (r : R β) (rel : Heap → α → β → Prop) (s : Shared) : Prop :=
  r ≠ .stuck → wpAny X.M X.AA t (Post X s r rel) (Exc X s r) s

noncomputable abbrev V : Heap → Value → D → Prop := fun h v d => Rep Plain h v d
noncomputable abbrev VL : Heap → List Value → List D → Prop := fun h v d => RepL Plain h v d
noncomputable def Stable {α β : Type} (rel : Heap → α → β → Prop) : Prop := ∀ fs h h' a b, Ext fs h h' → rel h a b → rel h' a b
theorem stableV : Stable V := fun _ _ _ _ _ x r => Rep.ext x r
section
variable {α β γ δ : Type} {X : Cx} {s : Shared}
theorem Ev.use {t : Sem α} {r : R β} {rel : Heap → α → β → Prop} {Q : α → Shared → Prop} {E : Value → Shared → Prop} (h : Ev X t r rel s) (hr : r ≠ .stuck)
    (hQ : ∀ a b s', r = .ok b → Adv X s s' → rel s'.heap a b → Q a s') (hE : ∀ e s', r = .raise → ERaise X s e s' → E e s') : wpAny X.M X.AA t Q E s :=
  wpAny_mono (wpAny_toks_of (Nat.le_refl _) (h hr)) (fun a s' ⟨tk, b, x, y, z⟩ => hQ a b s' x ⟨y, tk⟩ z) fun e s' ⟨_, x, y⟩ => hE e s' x y
theorem Ev.prim {t : Sem α} {b : β} {rel : Heap → α → β → Prop} (h : ∀ (Q : α → Shared → Prop) (E : Value → Shared → Prop), (∀ a s', Adv0 X s s' → rel s'.heap a b → Q a s') → wpAny X.M X.AA t Q E s) : Ev X t (.ok b) rel s :=
  fun _ => h _ _ fun a s' x y => ⟨b, rfl, x, y⟩
theorem Ev.stuck {t : Sem α} {rel : Heap → α → β → Prop} : Ev X t .stuck rel s := fun h => absurd rfl h
theorem Exc.of {r : R β} {r' : R γ} {s₁ : Shared} {e : Value} {s' : Shared} (x : Adv0 X s s₁) (hr : r = .raise → r' = .raise) (h : Exc X s₁ r e s') : Exc X s r' e s' := ⟨hr h.1, h.2.back x⟩
theorem Post.of {r r' : R β} {rel : Heap → α → β → Prop} {s₁ : Shared} {a : α} {s' : Shared} (x : Adv0 X s s₁) (hr : r = r') (h : Post X s₁ r rel a s') : Post X s r' rel a s' := by
  obtain ⟨b, e, y, z⟩ := h
  exact ⟨b, hr ▸ e, x.trans y, z⟩
theorem bind_ne {r : R β} {k : β → R γ} (h : r.bind k ≠ .stuck) : r ≠ .stuck := by
  intro e; rw [e] at h; exact h rfl
theorem bind_ne' {r : R β} {k : β → R γ} {b : β} (e : r = .ok b) (h : r.bind k ≠ .stuck) : k b ≠ .stuck := by
  rw [e] at h; exact h

/-- a tree, and what follows it -/
theorem Ev.then {t : Sem α} {r : R β} {rel : Heap → α → β → Prop} {k : β → R γ} {rel' : Heap → δ → γ → Prop} {f : α → Sem δ}
    (h1 : Ev X t r rel s) (h2 : ∀ a b s', r = .ok b → Adv X s s' → rel s'.heap a b → Ev X (f a) (k b) rel' s') (hr : r.bind k ≠ .stuck) :
    wpAny X.M X.AA t (fun a s₁ => wpAny X.M X.AA (f a) (Post X s (r.bind k) rel') (Exc X s (r.bind k)) s₁) (Exc X s (r.bind k)) s :=
  h1.use (bind_ne hr) (fun a b s₁ e x y => wpAny_mono (h2 a b s₁ e x y (bind_ne' e hr)) (fun _ _ z => z.of x.zero (by rw [e]; rfl)) fun _ _ z => Exc.of x.zero (fun q => by rw [e]; exact q) z)
    fun _ _ e y => ⟨by rw [e]; rfl, y⟩
theorem Ev.bind {t : Sem α} {r : R β} {rel : Heap → α → β → Prop} {k : β → R γ} {rel' : Heap → δ → γ → Prop} {f : α → Sem δ}
    (h1 : Ev X t r rel s) (h2 : ∀ a b s', r = .ok b → Adv X s s' → rel s'.heap a b → Ev X (f a) (k b) rel' s') : Ev X (t >>= f) (r.bind k) rel' s :=
  fun hr => wpAny_bind (h1.then h2 hr)

/-- two trees, and what follows them -/
theorem Ev.two {t₁ : Sem α} {t₂ : Sem δ} {r₁ : R β} {r₂ : R γ} {rel₁ : Heap → α → β → Prop} {rel₂ : Heap → δ → γ → Prop} {ε ζ : Type} {k : β → γ → R ε} {rel : Heap → ζ → ε → Prop} {f : α → δ → Sem ζ} (hst : Stable rel₁)
    (h1 : Ev X t₁ r₁ rel₁ s) (h2 : ∀ s', Adv X s s' → Ev X t₂ r₂ rel₂ s')
    (h3 : ∀ a b x y s', Adv X s s' → rel₁ s'.heap x a → rel₂ s'.heap y b → Ev X (f x y) (k a b) rel s') (hr : (r₁.bind fun a => r₂.bind fun b => k a b) ≠ .stuck) :
    wpAny X.M X.AA t₁ (fun x s₁ => wpAny X.M X.AA t₂ (fun y s₂ => wpAny X.M X.AA (f x y) (Post X s (r₁.bind fun a => r₂.bind fun b => k a b) rel) (Exc X s (r₁.bind fun a => r₂.bind fun b => k a b)) s₂)
      (Exc X s (r₁.bind fun a => r₂.bind fun b => k a b)) s₁) (Exc X s (r₁.bind fun a => r₂.bind fun b => k a b)) s := by
  refine h1.use (bind_ne hr) (fun x a s₁ e1 x1 y1 => ?_) fun _ _ e y => ⟨by rw [e]; rfl, y⟩
  have hr' := bind_ne' e1 hr
  rw [show (r₁.bind fun a => r₂.bind fun b => k a b) = r₂.bind fun b => k a b from by rw [e1]; rfl]
  refine (h2 s₁ x1).use (bind_ne hr') (fun y b s₂ e2 x2 y2 => ?_) fun _ _ e y => ⟨by rw [e]; rfl, y.back x1.zero⟩
  rw [show (r₂.bind fun b => k a b) = k a b from by rw [e2]; rfl]
  exact wpAny_mono (h3 a b x y s₂ (x1.trans x2) (hst _ _ _ _ _ x2.ext y1) y2 (bind_ne' e2 hr')) (fun _ _ z => z.of (x1.trans x2).zero rfl) fun _ _ z => Exc.of (x1.trans x2).zero (fun q => q) z

theorem Ev.congr {t : Sem α} {r r' : R β} {rel : Heap → α → β → Prop} (e : r = r') (h : Ev X t r rel s) : Ev X t r' rel s := e ▸ h
end

/-! constants, names -/
section
variable {X : Cx} {s : Shared}
theorem ev_const {c : Const} {k : Nat} {pos : Pos} : Ev X (eval (.Constant c k pos) X.env) (constD c) V s := by
  cases c with
  | none => exact .prim fun Q E h => wpAny_Constant_none (h _ _ (.refl _) .none)
  | bool b => exact .prim fun Q E h => wpAny_Constant_bool (h _ _ (.refl _) (.bool b))
  | int i => exact .prim fun Q E h => wpAny_Constant_int (h _ _ (.toks _ _) (.int i _))
  | str x => exact .prim fun Q E h => wpAny_Constant_str (h _ _ (.toks _ _) (.str x _))
  | bytes l => exact .prim fun Q E h => PySem.W.Constant_bytes (h _ _ (.toks _ _) (.bytes l _))
  | _ => exact .stuck

/-- what stands at the top under a name -/
noncomputable def TopName (W : Wd) (x : Str) (v : Value) : Prop := W.mg x = some v ∨ (W.mg x = none ∧ x ≠ "__name__" ∧ bootBuiltins x = some v)

theorem wp_topNameA {A : Around} {x : Str} {pos : Pos} {v : Value} {Q : Value → Shared → Prop} {E : Value → Shared → Prop} (w : X.W.Ok) (hst : X.W.base.StaysIn s.heap) (hk : X.scope.kind = .function) (hx : X.scope.names.lookup x = some .globalImplicit)
    (hv : TopName X.W x v) (hd : x ≠ Str.ofString "__debug__") (h : Q v s) : wpAny X.M A (eval (.Name x pos) X.env) Q E s := by
  have hd' : (x == ("__debug__" : Str)) = false := by simpa using hd
  rcases hv with hv | ⟨h1, h2, h3⟩
  · exact Calls.Name_function_global hk hx (Calls.loadGlobal_global (env := X.env) (w.g.keeps hst) hv h) hd'
  · exact Calls.Name_function_global hk hx (Calls.loadGlobal_builtin (env := X.env) (w.g.keeps hst) h1 (w.b.keeps hst) ((w.bi x h2).trans h3) h) hd'
theorem wp_topName {x : Str} {pos : Pos} {v : Value} {Q : Value → Shared → Prop} {E : Value → Shared → Prop} (w : X.W.Ok) (hst : X.W.base.StaysIn s.heap) (hk : X.scope.kind = .function) (hx : X.scope.names.lookup x = some .globalImplicit)
    (hv : TopName X.W x v) (hd : x ≠ Str.ofString "__debug__") (h : Q v s) : wpAny X.M X.AA (eval (.Name x pos) X.env) Q E s := wp_topNameA w hst hk hx hv hd h
end

theorem St.dicts {X : Cx} {k : Nat} (O : X.Ok k) {q : PS} {oa : Option Addr} {h : Heap} (S : St X q oa h) : Dicts h (X.env :: X.outer) := by
  intro b hb
  rcases List.mem_cons.mp (show b ∈ X.L :: fr X.outer from hb) with rfl | hb
  · obtain ⟨m, ⟨o, es, ep, h1, h2, _⟩, _⟩ := S.loc
    exact ⟨o, es, ep, h1, h2⟩
  · obtain ⟨o, es, n, h1, h2⟩ := O.outerd b hb
    obtain ⟨sl, h3⟩ := S.ext.slots b o h1
    exact ⟨_, es, n, h3, h2⟩

/-- a call of a def of the text's -/
noncomputable def CallOk (W : Wd) (k : Nat) (f : Str) (ds : List D) (r : R D) : Prop :=
  ∃ a o fd, W.mg f = some (.ref a) ∧ W.base.get? a = some o ∧ o.data = .func fd ∧
    ∀ (A : Around) (outer : List Env) (s : Shared) (vals : List Value), A.frames = some outer → A.handled = none → A.depth + k < recursionLimit → A.units + 100 * (k + 1) < cLine →
      W.base.StaysIn s.heap → s.heap.FunFrames W.base outer → Dicts s.heap outer → RepL Plain s.heap vals ds →
      wpAny (model W.p W.w) A (call (.ref a) vals)
        (fun v s' => ∃ d h' tk, r = .ok d ∧ s' = { s with heap := h', toks := tk } ∧ Ext (fr outer) s.heap h' ∧ Rep Plain h' v d)
        (fun e s' => r = .raise ∧ ∃ ea h' tk, e = .ref ea ∧ s' = { s with heap := h', toks := tk } ∧ Ext (fr outer) s.heap h' ∧ (hide s.heap (fr outer)).get? ea = none ∧
          h'.FunFrames (hide s.heap (fr outer)) outer ∧ ∃ a0, h'.TracedW (hide s.heap (fr outer)) ea (.type "ValueError") a0) s

structure CfgOk (C : Cfg) (X : Cx) (k : Nat) : Prop where
  sc : X.scope = C.sc
  G : ∀ x d, C.G x = some d → ∃ v, Rep Plain X.W.base v d ∧ TopName X.W x v
  B : ∀ x, C.B.contains x = true → X.W.mg x = none
  fns : ∀ x, C.fns.contains x = true → ∃ a o fd, X.W.mg x = some (.ref a) ∧ X.W.base.get? a = some o ∧ o.data = .func fd
  F : ∀ f ds, C.F f ds ≠ .stuck → CallOk X.W k f ds (C.F f ds)

section
variable {X : Cx} {s : Shared} {C : Cfg} {k : Nat} {q : PS} {oa : Option Addr}

theorem Rep.plain {N : Addr → Prop} {h : Heap} {v : Value} {d : D} (r : Rep N h v d) : Rep Plain h v d := r.imp fun _ _ _ _ => trivial
theorem RepL.plain {N : Addr → Prop} {h : Heap} {v : List Value} {d : List D} (r : RepL N h v d) : RepL Plain h v d := r.imp fun _ _ _ _ => trivial
theorem Rep.stays {N : Addr → Prop} {h h' : Heap} {v : Value} {d : D} (k : h.StaysIn h') (r : Rep N h v d) : Rep N h' v d := r.ext (fs := []) (.of_keeps k)

theorem St.get {x : Str} {d : D} (S : St X q oa s.heap) (e : q.get x = some d) : ∃ m v, s.heap.Ns X.L m ∧ m x = some v ∧ Rep Plain s.heap v d := by
  obtain ⟨m, hn, hl, ho⟩ := S.loc
  unfold PS.get at e
  cases hq : q.own with
  | none =>
    rw [hq] at e
    obtain ⟨v, hv, r⟩ := hl x d e
    exact ⟨m, v, hn, hv, r.plain⟩
  | some p =>
    obtain ⟨y, ds⟩ := p
    rw [hq] at e ho
    dsimp only at e
    by_cases hy : y = x
    · rw [if_pos hy] at e
      cases e
      obtain ⟨a, vs, e1, e2, e3, e4⟩ := ho
      exact ⟨m, .ref a, hn, hy ▸ e2, .lst trivial e3.isList e4.plain⟩
    · rw [if_neg hy] at e
      obtain ⟨v, hv, r⟩ := hl x d e
      exact ⟨m, v, hn, hv, r.plain⟩

theorem ev_name {x : Str} {pos : Pos} (O : X.Ok k) (K : CfgOk C X k) (S : St X q oa s.heap) : Ev X (eval (.Name x pos) X.env) (nameD C q x) V s := by
  intro hr
  unfold nameD at hr ⊢
  by_cases hd : x = Str.ofString "__debug__"
  · rw [if_pos hd] at hr; exact absurd rfl hr
  rw [if_neg hd] at hr ⊢
  have hd' : (x == ("__debug__" : Str)) = false := by simpa using hd
  cases hkx : C.kind x with
  | none => rw [hkx] at hr; exact absurd rfl hr
  | some kd =>
    rw [hkx] at hr
    have hkx' : X.scope.names.lookup x = some kd := by rw [K.sc]; exact hkx
    cases kd with
    | «local» =>
      dsimp only at hr ⊢
      cases hg : q.get x with
      | none => rw [hg] at hr; exact absurd rfl hr
      | some d =>
        obtain ⟨m, v, hn, hv, r⟩ := S.get hg
        exact wpAny_Name (wpAny_loadName_local (env := X.env) O.kind hkx' hn hv ⟨d, rfl, .refl _, r⟩) hd'
    | globalImplicit =>
      dsimp only at hr ⊢
      cases hg : C.G x with
      | none => rw [hg] at hr; exact absurd rfl hr
      | some d =>
        obtain ⟨v, r, hv⟩ := K.G x d hg
        exact wp_topName O.w S.stays O.kind hkx' hv hd ⟨d, rfl, .refl _, r.stays S.stays⟩
    | _ => exact absurd rfl hr
end
end
end Mine
namespace Mine
section
open PySem PySem.Calls PySem.Spec PyProof.Rows PySem.SeqAt

/-! == -/
mutual
theorem Rep.unique {h : Heap} : ∀ {v : Value} {d e : D}, Rep Plain h v d → Rep Plain h v e → d = e
  | _, _, _, .none, x => by cases x; rfl
  | _, _, _, .bool b, x => by cases x; rfl
  | _, _, _, .int i t, x => by cases x; rfl
  | _, _, _, .str s t, x => by cases x; rfl
  | _, _, _, .bytes l t, x => by
    generalize hb : Value.bytes l.toArray t = w at x
    cases x <;> first | (cases hb; rfl) | cases hb
  | _, _, _, .typ n, x => by cases x; rfl
  | _, _, _, .tup (a := a) t r, x => by
    cases x with
    | tup t' r' =>
      obtain ⟨o, ho, hc, n, hd⟩ := t
      obtain ⟨o', ho', hc', n', hd'⟩ := t'
      rw [ho] at ho'
      cases ho'
      rw [hd] at hd'
      injection hd' with h1 h2
      have e := List.toArray_inj h1
      subst e
      rw [RepL.unique r r']
    | lst n' t' r' =>
      obtain ⟨o, ho, hc, n, hd⟩ := t
      obtain ⟨o', ho', hc', _⟩ := t'
      rw [ho] at ho'
      cases ho'
      rw [hc] at hc'
      simp at hc'
  | _, _, _, .lst (a := a) n t r, x => by
    cases x with
    | tup t' r' =>
      obtain ⟨o, ho, hc, n, hd⟩ := t
      obtain ⟨o', ho', hc', _⟩ := t'
      rw [ho] at ho'
      cases ho'
      rw [hc] at hc'
      simp at hc'
    | lst n' t' r' =>
      obtain ⟨o, ho, hc, n, hd⟩ := t
      obtain ⟨o', ho', hc', n', hd'⟩ := t'
      rw [ho] at ho'
      cases ho'
      rw [hd] at hd'
      injection hd' with h1 h2
      have e := List.toArray_inj h1
      subst e
      rw [RepL.unique r r']
theorem RepL.unique {h : Heap} : ∀ {vs : List Value} {ds es : List D}, RepL Plain h vs ds → RepL Plain h vs es → ds = es
  | _, _, _, .nil, x => by cases x; rfl
  | _, _, _, .cons a r, x => by
    cases x with
    | cons a' r' => rw [Rep.unique a a', RepL.unique r r']
end

theorem eqL_refl {f : D → D → Option Bool} (hf : ∀ d b, f d d = some b → b = true) : ∀ (ds : List D) (b : Bool), eqL f ds ds = some b → b = true
  | [], b, h => by simp [eqL] at h; first | exact h | exact h.symm
  | d :: ds, b, h => by
    unfold eqL at h
    cases h1 : f d d with
    | none => rw [h1] at h; simp at h
    | some x =>
      cases h2 : eqL f ds ds with
      | none => rw [h1, h2] at h; simp at h
      | some y =>
        rw [h1, h2] at h
        have e1 := hf d x h1
        have e2 := eqL_refl hf ds y h2
        subst e1 e2
        simpa using h.symm
theorem eqA_refl (d : D) (b : Bool) (h : eqA d d = some b) : b = true := by
  cases d <;> first | (cases h; done) | (cases h; exact beq_self_eq_true _) | (cases h; rfl)
theorem eqD_refl : ∀ (n : Nat) (d : D) (b : Bool), eqD n d d = some b → b = true
  | 0, d, b, h => eqA_refl d b h
  | n + 1, d, b, h => by
    cases d with
    | tup ds => exact eqL_refl (eqD_refl n) ds b h
    | lst ds => exact eqL_refl (eqD_refl n) ds b h
    | none => exact eqA_refl .none b h
    | bool x => exact eqA_refl (.bool x) b h
    | int x => exact eqA_refl (.int x) b h
    | str x => exact eqA_refl (.str x) b h
    | bytes x => exact eqA_refl (.bytes x) b h
    | typ x => exact eqA_refl (.typ x) b h

noncomputable def pairB (f : D → D → Option Bool) (ds es : List D) (j : Nat) : Bool := match ds[j]?, es[j]? with
  | some d, some e => (f d e).getD false
  | _, _ => false
theorem eqL_pairs {f : D → D → Option Bool} : ∀ (ds es : List D) (b : Bool), eqL f ds es = some b → (∀ (j : Nat) (d e : D), ds[j]? = some d → es[j]? = some e → f d e = some (pairB f ds es j)) ∧ ((List.range (min ds.length es.length)).all (pairB f ds es) && ds.length == es.length) = b
  | [], [], b, h => ⟨fun j d e h => by simp at h, by simp [eqL] at h; simpa using h⟩
  | [], e :: es, b, h => ⟨fun j d e h => by simp at h, by simp [eqL] at h; simpa using h⟩
  | d :: ds, [], b, h => ⟨fun j d e _ h => by simp at h, by simp [eqL] at h; simpa using h⟩
  | d :: ds, e :: es, b, h => by
    unfold eqL at h
    cases h1 : f d e with
    | none => rw [h1] at h; simp at h
    | some x =>
      cases h2 : eqL f ds es with
      | none => rw [h1, h2] at h; simp at h
      | some y =>
        rw [h1, h2] at h
        obtain ⟨k1, k2⟩ := eqL_pairs ds es y h2
        refine ⟨fun j d' e' g1 g2 => ?_, ?_⟩
        · cases j with
          | zero =>
            simp at g1 g2
            subst g1 g2
            simp [pairB, h1]
          | succ j =>
            simp at g1 g2
            rw [k1 j d' e' g1 g2]
            simp [pairB]
        · have hm : min (d :: ds).length (e :: es).length = min ds.length es.length + 1 := by simp only [List.length_cons]; (first | lia | omega)
          rw [hm, List.range_succ_eq_map, List.all_cons, List.all_map]
          have e0 : pairB f (d :: ds) (e :: es) 0 = x := by simp [pairB, h1]
          have e1 : (pairB f (d :: ds) (e :: es) ∘ Nat.succ) = pairB f ds es := by funext j; simp [pairB]
          have e2 : ((d :: ds).length == (e :: es).length) = (ds.length == es.length) := by simp
          rw [e0, e1, e2, Bool.and_assoc, k2]
          simpa using h

theorem subB_str_bytes : isSubtype (.type "str") (.type "bytes") = pure false := PySem.F.sub_str_bytes
theorem subB_bytes_str : isSubtype (.type "bytes") (.type "str") = pure false := PySem.F.sub_bytes_str
theorem bytes_eq_declines (b : Array UInt8) (t : Tok) (x : Str) (u : Tok) : Gives (Builtin.«bytes.__eq__» ⟨[.bytes b t, .str x u], []⟩) (.val (Value.notImplemented)) := by
  refine .of_wp fun M A E s Q hq => ?_
  show wpAny M A (isInstance (.str x u) (.type "bytes") >>= fun r => _) _ E s
  refine wpAny_bind (wpAny_isInstance (typeIs_str s x u) subB_str_bytes ?_)
  show wpAny M A (do rule _; ret .notImplemented) _ _ _
  exact wpAny_bind (wpAny_rule (wpAny_pure ⟨_, rfl, hq⟩))
theorem bytes_ne_declines (b : Array UInt8) (t : Tok) (x : Str) (u : Tok) : Gives (Builtin.«bytes.__ne__» ⟨[.bytes b t, .str x u], []⟩) (.val (Value.notImplemented)) := by
  refine .of_wp fun M A E s Q hq => ?_
  show wpAny M A (isInstance (.str x u) (.type "bytes") >>= fun r => _) _ E s
  refine wpAny_bind (wpAny_isInstance (typeIs_str s x u) subB_str_bytes ?_)
  show wpAny M A (do rule _; ret .notImplemented) _ _ _
  exact wpAny_bind (wpAny_rule (wpAny_pure ⟨_, rfl, hq⟩))
theorem str_eq_declines (b : Array UInt8) (t : Tok) (x : Str) (u : Tok) : Gives (Builtin.«str.__eq__» ⟨[.str x u, .bytes b t], []⟩) (.val (Value.notImplemented)) :=
  .of_wp fun M A E s Q h => by obtain ⟨hp, g, d, tk, os⟩ := s; wp_walk; exact ⟨_, rfl, h⟩
theorem str_ne_declines (b : Array UInt8) (t : Tok) (x : Str) (u : Tok) : Gives (Builtin.«str.__ne__» ⟨[.str x u, .bytes b t], []⟩) (.val (Value.notImplemented)) :=
  .of_wp fun M A E s Q h => by obtain ⟨hp, g, d, tk, os⟩ := s; wp_walk; exact ⟨_, rfl, h⟩

section
variable {A : Around} {s : Shared}
theorem rc_bytes (b c : Array UInt8) (t u : Tok) : RcAt A s (.bytes b t) (.bytes c u) (b.toList == c.toList) := fun prog w E Q h => PySem.W.eq_bytes (A := A) (E := E) h
theorem rcNe_bytes (b c : Array UInt8) (t u : Tok) : RcNeAt A s (.bytes b t) (.bytes c u) (!(b.toList == c.toList)) := fun prog w E Q h => PySem.W.ne_bytes (A := A) (E := E) h
theorem rc_bytes_str (b : Array UInt8) (t : Tok) (x : Str) (u : Tok) : RcAt A s (.bytes b t) (.str x u) false := fun prog w E Q h =>
  rc_eq_decline_or (k := false) (PySem.W.typeIs_bytes s b t) (typeIs_str s x u) (by decide) subB_str_bytes PySem.W.FB.slot_bytes_eq F.slot_str_eq_refl
    (fun _ hq => call_gives PySem.W.FB.slot_bytes_eq (PySem.W.typeIs_bytes s b t) PySem.W.FB.entry_bytes_eq (PySem.W.FB.args_bytes_eq_2 _ _) (bytes_eq_declines b t x u) hq)
    (fun _ hq => call_gives F.slot_str_eq_refl (typeIs_str s x u) F.entry_str_eq (F.args_str_eq_2 _ _) (str_eq_declines b t x u) hq)
    (fun _ hq => wpAny_of_eq (rfl : isSame (.bytes b t) (.str x u) = pure false) hq) (.inl rfl) h
theorem rc_str_bytes (b : Array UInt8) (t : Tok) (x : Str) (u : Tok) : RcAt A s (.str x u) (.bytes b t) false := fun prog w E Q h =>
  rc_eq_decline_or (k := false) (typeIs_str s x u) (PySem.W.typeIs_bytes s b t) (by decide) subB_bytes_str F.slot_str_eq PySem.W.FB.slot_bytes_eq
    (fun _ hq => call_gives F.slot_str_eq (typeIs_str s x u) F.entry_str_eq (F.args_str_eq_2 _ _) (str_eq_declines b t x u) hq)
    (fun _ hq => call_gives PySem.W.FB.slot_bytes_eq (PySem.W.typeIs_bytes s b t) PySem.W.FB.entry_bytes_eq (PySem.W.FB.args_bytes_eq_2 _ _) (bytes_eq_declines b t x u) hq)
    (fun _ hq => wpAny_of_eq (rfl : isSame (.str x u) (.bytes b t) = pure false) hq) (.inl rfl) h
theorem rcNe_bytes_str (b : Array UInt8) (t : Tok) (x : Str) (u : Tok) : RcNeAt A s (.bytes b t) (.str x u) true := fun prog w E Q h =>
  rc_ne_decline_or (k := false) (PySem.W.typeIs_bytes s b t) (typeIs_str s x u) (by decide) subB_str_bytes PySem.W.FB.slot_bytes_ne F.slot_str_ne_refl
    (fun _ hq => call_gives PySem.W.FB.slot_bytes_ne (PySem.W.typeIs_bytes s b t) PySem.W.FB.entry_bytes_ne (PySem.W.FB.args_bytes_ne_2 _ _) (bytes_ne_declines b t x u) hq)
    (fun _ hq => call_gives F.slot_str_ne_refl (typeIs_str s x u) F.entry_str_ne (F.args_str_ne_2 _ _) (str_ne_declines b t x u) hq)
    (fun _ hq => wpAny_of_eq (rfl : isSame (.bytes b t) (.str x u) = pure false) hq) (.inl rfl) h
theorem rcNe_str_bytes (b : Array UInt8) (t : Tok) (x : Str) (u : Tok) : RcNeAt A s (.str x u) (.bytes b t) true := fun prog w E Q h =>
  rc_ne_decline_or (k := false) (typeIs_str s x u) (PySem.W.typeIs_bytes s b t) (by decide) subB_bytes_str F.slot_str_ne PySem.W.FB.slot_bytes_ne
    (fun _ hq => call_gives F.slot_str_ne (typeIs_str s x u) F.entry_str_ne (F.args_str_ne_2 _ _) (str_ne_declines b t x u) hq)
    (fun _ hq => call_gives PySem.W.FB.slot_bytes_ne (PySem.W.typeIs_bytes s b t) PySem.W.FB.entry_bytes_ne (PySem.W.FB.args_bytes_ne_2 _ _) (bytes_ne_declines b t x u) hq)
    (fun _ hq => wpAny_of_eq (rfl : isSame (.str x u) (.bytes b t) = pure false) hq) (.inl rfl) h

theorem eqAt_of_rc {v u : Value} {b : Bool} (hf : ∀ x t, v ≠ .float x t) (h : RcAt A s v u b) (hs : v = u → b = true) : EqAt A s v u b := fun prog w E Q hq => by
  unfold eqBool
  refine wpAny_holding ?_
  refine wpAny_ite_split (fun hab => ?_) (fun _ => ?_)
  · have e := hs (eq_of_beq hab)
    subst e
    exact wpAny_bind (wpAny_rule (wpAny_pure hq))
  · dsimp only
    split
    · rename_i q
      injection q with q1 q2
      exact absurd q1 (hf _ _)
    · exact wpAny_bind (h prog w E _ (show wpAny _ _ (truthOfDropped (.bool b)) _ _ _ from fun _ _ _ => hq))

theorem Rep.notFloat {N : Addr → Prop} {h : Heap} {v : Value} {d : D} (r : Rep N h v d) (x : UInt64) (t : Tok) : v ≠ .float x t := by
  cases r <;> (intro e; cases e)

theorem rc_atoms {d e : D} {v u : Value} {b : Bool} (hu : A.units < cLine) (h : eqA d e = some b) (rv : Rep Plain s.heap v d) (ru : Rep Plain s.heap u e) : RcAt A s v u b ∧ RcNeAt A s v u (!b) := by
  cases rv with
  | none =>
    cases ru with
    | none => cases h; exact ⟨.none_none, .none_none⟩
    | _ => cases h
  | bool a =>
    cases ru with
    | bool => cases h; exact ⟨.bool_bool _ _, .bool_bool _ _⟩
    | _ => cases h
  | int a t =>
    cases ru with
    | int => cases h; exact ⟨.int_int _ _ _ _, .int_int _ _ _ _⟩
    | _ => cases h
  | str a t =>
    cases ru with
    | str => cases h; exact ⟨.str_str _ _ _ _, .str_str _ _ _ _⟩
    | bytes => cases h; exact ⟨rc_str_bytes _ _ _ _, rcNe_str_bytes _ _ _ _⟩
    | tup ht _ => cases h; exact ⟨.str_tuple _ _ ht hu, .str_tuple _ _ ht hu⟩
    | lst _ ht _ => cases h; exact ⟨.str_list _ _ ht hu, .str_list _ _ ht hu⟩
    | _ => cases h
  | bytes a t =>
    cases ru with
    | str => cases h; exact ⟨rc_bytes_str _ _ _ _, rcNe_bytes_str _ _ _ _⟩
    | bytes => cases h; exact ⟨rc_bytes _ _ _ _, rcNe_bytes _ _ _ _⟩
    | _ => cases h
  | typ n => cases h
  | tup ht _ =>
    cases ru with
    | str => cases h; exact ⟨.tuple_str _ _ ht hu, .tuple_str _ _ ht hu⟩
    | _ => cases h
  | lst _ ht _ =>
    cases ru with
    | str => cases h; exact ⟨.list_str _ _ ht hu, .list_str _ _ ht hu⟩
    | _ => cases h
end

theorem rc_rep {s : Shared} : ∀ (n : Nat) (d e : D) (v u : Value) (b : Bool) (A : Around), A.units + n < cLine → eqD n d e = some b → Rep Plain s.heap v d → Rep Plain s.heap u e → RcAt A s v u b ∧ RcNeAt A s v u (!b)
  | 0, d, e, v, u, b, A, hu, h, rv, ru => rc_atoms hu h rv ru
  | n + 1, d, e, v, u, b, A, hu, h, rv, ru => by
    have items : ∀ {vs ws : List Value} {ds es : List D} {k : Bool}, RepL Plain s.heap vs ds → RepL Plain s.heap ws es → eqL (eqD n) ds es = some k →
        ∀ j (h1 : j < vs.toArray.size) (h2 : j < ws.toArray.size), EqAt A.in1 s vs.toArray[j] ws.toArray[j] (pairB (eqD n) ds es j) := by
      intro vs ws ds es k r1 r2 hk j h1 h2
      have l1 := r1.length
      have l2 := r2.length
      have q1 : j < ds.length := by simpa [← l1] using h1
      have q2 : j < es.length := by simpa [← l2] using h2
      obtain ⟨x, hx, rx⟩ := r1.get (List.getElem?_eq_getElem q1)
      obtain ⟨y, hy, ry⟩ := r2.get (List.getElem?_eq_getElem q2)
      have e1 : vs.toArray[j] = x := by
        have := List.getElem?_eq_some_iff.mp hx
        obtain ⟨_, z⟩ := this
        simpa using z
      have e2 : ws.toArray[j] = y := by
        have := List.getElem?_eq_some_iff.mp hy
        obtain ⟨_, z⟩ := this
        simpa using z
      rw [e1, e2]
      have hp := (eqL_pairs ds es k hk).1 j _ _ (List.getElem?_eq_getElem q1) (List.getElem?_eq_getElem q2)
      have hr := rc_rep n _ _ x y _ A.in1 (by show A.units + 1 + n < cLine; (first | lia | omega)) hp rx ry
      refine eqAt_of_rc rx.notFloat hr.1 fun q => ?_
      subst q
      have := rx.unique ry
      rw [this] at hp
      exact eqD_refl n _ _ hp
    have atoms : eqA d e = some b → RcAt A s v u b ∧ RcNeAt A s v u (!b) := fun h => rc_atoms (Nat.lt_of_le_of_lt (Nat.le_add_right _ _) hu) h rv ru
    have hu' : A.units < cLine := Nat.lt_of_le_of_lt (Nat.le_add_right _ _) hu
    cases rv with
    | @tup a1 vs1 ds1 t1 r1 =>
      cases ru with
      | @tup a2 vs2 ds2 t2 r2 =>
        have h' : eqL (eqD n) ds1 ds2 = some b := h
        have hb := (eqL_pairs _ _ _ h').2
        have z := RcAt.tuples (A := A) t1 t2 hu' (items r1 r2 h')
        have z' := RcNeAt.tuples (A := A) t1 t2 hu' (items r1 r2 h')
        simp only [List.size_toArray, r1.length, r2.length] at z z'
        rw [hb] at z z'
        exact ⟨z, z'⟩
      | _ => exact atoms h
    | @lst a1 vs1 ds n1 t1 r1 =>
      cases ru with
      | @lst a2 vs2 es n2 t2 r2 =>
        have h' : eqL (eqD n) ds es = some b := h
        have hb := (eqL_pairs _ _ _ h').2
        by_cases hl : ds.length = es.length
        · have hz : vs1.toArray.size = vs2.toArray.size := by simpa [r1.length, r2.length] using hl
          have z := RcAt.lists (A := A) t1 t2 hz hu' (items r1 r2 h')
          have z' := RcNeAt.lists (A := A) t1 t2 hz hu' (items r1 r2 h')
          simp only [List.size_toArray, r1.length] at z z'
          rw [hl, Nat.min_self] at hb
          rw [hl] at z z'
          simp only [beq_self_eq_true, Bool.and_true] at hb
          rw [hb] at z z'
          exact ⟨z, z'⟩
        · have hb' : b = false := by
            rw [← hb]
            have : (ds.length == es.length) = false := by simpa using hl
            rw [this, Bool.and_false]
          subst hb'
          have hz : (vs1.toArray.size != vs2.toArray.size) = true := by
            simp only [List.size_toArray, r1.length, r2.length]
            simpa using hl
          exact ⟨RcAt.lists_lengths t1 t2 hz hu', RcNeAt.lists_lengths t1 t2 hz hu'⟩
      | _ => exact atoms h
    | _ => exact atoms h

/-! is; in -/
section
variable {X : Cx} {s : Shared} {k : Nat}
theorem Cx.Ok.room (O : X.Ok k) : X.AA.units + 50 < cLine := by
  have h := O.units
  show X.A.units + 3 + 50 < cLine
  (first | lia | omega)
theorem ev_eq {d e : D} {v u : Value} {b : Bool} (O : X.Ok k) (h : eqD 4 d e = some b) (rv : Rep Plain s.heap v d) (ru : Rep Plain s.heap u e) :
    Ev X (compareOp .Eq v u) (.ok b) (fun _ v b => v = .bool b) s :=
  .prim fun Q E hq => (rc_rep 4 d e v u b X.AA (by have := O.room; (first | lia | omega)) h rv ru).1 _ _ E Q (hq _ _ (.refl _) rfl)
theorem ev_ne {d e : D} {v u : Value} {b : Bool} (O : X.Ok k) (h : eqD 4 d e = some b) (rv : Rep Plain s.heap v d) (ru : Rep Plain s.heap u e) :
    Ev X (compareOp .NotEq v u) (.ok !b) (fun _ v b => v = .bool b) s :=
  .prim fun Q E hq => (rc_rep 4 d e v u b X.AA (by have := O.room; (first | lia | omega)) h rv ru).2 _ _ E Q (hq _ _ (.refl _) rfl)
end
end
end Mine
namespace Mine
section
open PySem PySem.Calls PySem.Spec PyProof.Rows PySem.SeqAt

section
variable {X : Cx} {s : Shared} {k : Nat}

theorem mulOk {a b : Int} (h : (-big < a ∧ a < big) ∨ (-big < b ∧ b < big)) : IntMulOk a b := by
  unfold big at h
  rcases h with h | h
  · exact .of_left (intBits_le_64 (by have := h.1; (first | lia | omega)) (by have := h.2; (first | lia | omega)))
  · exact .of_right (intBits_le_64 (by have := h.1; (first | lia | omega)) (by have := h.2; (first | lia | omega)))

/-- bytes put together -/
noncomputable def AddBytes : Prop := ∀ (prog : Program) (w : World) (A : Around) (E : Value → Shared → Prop) (s : Shared) (b c : Array UInt8) (t u : Tok) (Q : Value → Shared → Prop), b.size + c.size ≤ 16777216 → (∀ t' k, Q (.bytes (b ++ c) t') { s with toks := k }) → wpAny (model prog w) A (binaryOp .Add (.bytes b t) (.bytes c u)) Q E s
noncomputable def MulBytes : Prop := ∀ (prog : Program) (w : World) (A : Around) (E : Value → Shared → Prop) (s : Shared) (b : List UInt8) (n : Int) (t u : Tok) (Q : Value → Shared → Prop), b.length ≤ 16 → 0 ≤ n → n ≤ 1000 → (∀ t' k, Q (.bytes ((List.replicate n.toNat b).flatten).toArray t') { s with toks := k }) → wpAny (model prog w) A (binaryOp .Mult (.bytes b.toArray t) (.int n u)) Q E s

theorem intsD_of {f : Int → Int → R D} {a b : D} (h : intsD f a b ≠ .stuck) : ∃ i j, a = .int i ∧ b = .int j := by
  cases a with
  | int i =>
    cases b with
    | int j => exact ⟨i, j, rfl, rfl⟩
    | _ => exact absurd rfl h
  | _ => exact absurd rfl h
theorem ev_ints {op : Operator} {f : Int → Int → R D} {a b : D} {va vb : Value} (ra : Rep Plain s.heap va a) (rb : Rep Plain s.heap vb b)
    (hf : ∀ i j t u, Ev X (binaryOp op (.int i t) (.int j u)) (f i j) V s) : Ev X (binaryOp op va vb) (intsD f a b) V s := by
  intro hr
  obtain ⟨i, j, rfl, rfl⟩ := intsD_of hr
  cases ra; cases rb
  exact hf _ _ _ _ hr
theorem ev_if {t : Sem Value} {c : Prop} [Decidable c] {d : D} (h : c → Ev X t (.ok d) V s) : Ev X t (if c then .ok d else .stuck) V s := by
  split
  · rename_i hc; exact h hc
  · exact .stuck
theorem ev_add (hab : AddBytes) {a b : D} {va vb : Value} (ra : Rep Plain s.heap va a) (rb : Rep Plain s.heap vb b) : Ev X (binaryOp .Add va vb) (addD a b) V s := by
  cases ra with
  | int i t =>
    cases rb with
    | int j u => exact fun _ => add_int ⟨_, rfl, .toks _ _, .int _ _⟩
    | _ => exact .stuck
  | bytes l t =>
    cases rb with
    | bytes l' t' =>
      refine ev_if fun h _ => hab _ _ _ _ _ _ _ _ _ _ (by simpa [line] using h) fun t' k => ?_
      rw [List.append_toArray]
      exact ⟨_, rfl, .toks _ _, .bytes _ _⟩
    | _ => exact .stuck
  | str x t =>
    cases rb with
    | str y u => exact ev_if fun h _ => PyProof.Rows.add_str (fun t' k => ⟨_, rfl, .toks _ _, .str _ _⟩) (by simpa [sizeLine_eq, line] using h)
    | _ => exact .stuck
  | _ => exact .stuck
theorem ev_mul (hmb : MulBytes) {a b : D} {va vb : Value} (ra : Rep Plain s.heap va a) (rb : Rep Plain s.heap vb b) : Ev X (binaryOp .Mult va vb) (mulD a b) V s := by
  cases ra with
  | int i t =>
    cases rb with
    | int j u => exact ev_if fun h _ => PySem.P.mul_int ⟨_, rfl, .toks _ _, .int _ _⟩ (mulOk h)
    | _ => exact .stuck
  | bytes l t =>
    cases rb with
    | int n u => exact ev_if fun h _ => hmb _ _ _ _ _ _ _ _ _ _ h.1 h.2.1 h.2.2 fun t' k => ⟨_, rfl, .toks _ _, .bytes _ _⟩
    | _ => exact .stuck
  | _ => exact .stuck
theorem ev_bin (hab : AddBytes) (hmb : MulBytes) {op : Operator} {a b : D} {va vb : Value} (ra : Rep Plain s.heap va a) (rb : Rep Plain s.heap vb b) : Ev X (binaryOp op va vb) (binD op a b) V s := by
  cases op with
  | Add => exact ev_add hab ra rb
  | Mult => exact ev_mul hmb ra rb
  | Sub => exact ev_ints ra rb fun i j t u _ => sub_int ⟨_, rfl, .toks _ _, .int _ _⟩
  | FloorDiv =>
    refine ev_ints ra rb fun i j t u => ev_if fun h _ => PyProof.Rows.floordiv_int (by (first | lia | omega)) ?_ (Or.inl (PyProof.noPylong_small (by (first | lia | omega))))
    rw [Int.fdiv_eq_ediv_of_nonneg _ (by (first | lia | omega))]
    exact ⟨_, rfl, .toks _ _, .int _ _⟩
  | Mod =>
    refine ev_ints ra rb fun i j t u => ev_if fun h _ => PyProof.Rows.mod_int (by (first | lia | omega)) ?_
    rw [Int.fmod_eq_emod_of_nonneg _ (by (first | lia | omega))]
    exact ⟨_, rfl, .toks _ _, .int _ _⟩
  | Pow =>
    refine ev_ints ra rb fun i j t u => ev_if fun h _ => ?_
    unfold big at h
    exact PyProof.Rows.pow_int_small h.1 (by (first | lia | omega)) (by have := h.2.2.1; have := h.2.2.2; (first | lia | omega)) ⟨_, rfl, .toks _ _, .int _ _⟩
  | _ => exact .stuck

theorem ev_neg {a : D} {va : Value} (ra : Rep Plain s.heap va a) : Ev X (unaryOp .USub va) (negD a) V s := by
  intro hr
  cases ra with
  | int i t => exact PySem.P.neg_int ⟨_, rfl, .toks _ _, .int _ _⟩
  | _ => exact absurd rfl hr

noncomputable abbrev VB : Heap → Value → Bool → Prop := fun _ v b => v = .bool b

noncomputable def hitV (i : Int) : Value → Bool
  | .int j _ => i == j
  | _ => false
theorem ints_tuple (i : Int) (t : Tok) (A : Around) : ∀ {vs : List Value} {ds : List D}, RepL Plain s.heap vs ds → ds.all isInt = true →
    (∀ y ∈ vs, EqAt A s y (.int i t) (hitV i y)) ∧ vs.any (hitV i) = ds.any (hitI i)
  | _, _, .nil, _ => ⟨fun y hy => by simp at hy, rfl⟩
  | _, _, .cons (v := v) (d := d) hr hrs, h => by
    simp only [List.all_cons, Bool.and_eq_true] at h
    obtain ⟨h1, h2⟩ := ints_tuple i t A hrs h.2
    cases hr with
    | int j u =>
      refine ⟨fun y hy => ?_, ?_⟩
      · rcases List.mem_cons.mp hy with rfl | hy
        · have := EqAt.int_int (A := A) (s := s) j u i t
          rwa [show hitV i (.int j u) = (j == i) from by
            show (i == j) = (j == i)
            rw [Bool.eq_iff_iff, beq_iff_eq, beq_iff_eq]
            exact eq_comm]
        · exact h1 y hy
      · rw [List.any_cons, List.any_cons, h2]
        rfl
    | _ => exact absurd h.1 Bool.false_ne_true

theorem ev_inT {i : Int} {t : Tok} {ds : List D} {vb : Value} (rb : Rep Plain s.heap vb (.tup ds)) : Ev X (compareOp .In (.int i t) vb) (inT i ds) VB s ∧ Ev X (compareOp .NotIn (.int i t) vb) ((inT i ds).bind fun t => .ok !t) VB s := by
  unfold inT
  cases rb with
  | tup ht hr =>
  split
  · rename_i h
    obtain ⟨he, hv⟩ := ints_tuple i t X.AA.in1 hr h
    constructor
    · intro _
      refine in_tupleAt _ ht (fun y hy => he y (by simpa using hy)) ⟨_, rfl, .refl _, ?_⟩
      rw [← hv]; exact congrArg Value.bool (by simp)
    · intro _
      refine notIn_tupleAt _ ht (fun y hy => he y (by simpa using hy)) ⟨_, rfl, .refl _, ?_⟩
      rw [← hv]; exact congrArg Value.bool (by simp)
  · exact ⟨.stuck, .stuck⟩

theorem ev_ord {op : CmpOp} {f : Int → Int → Bool} {a b : D} {va vb : Value} (ra : Rep Plain s.heap va a) (rb : Rep Plain s.heap vb b)
    (hf : ∀ i j t u, Ev X (compareOp op (.int i t) (.int j u)) (.ok (f i j)) VB s) : Ev X (compareOp op va vb) (ordD f a b) VB s := by
  cases ra with
  | int i t =>
    cases rb with
    | int j u => exact hf _ _ _ _
    | _ => exact .stuck
  | _ => exact .stuck
theorem ev_cmp {op : CmpOp} {a b : D} {va vb : Value} (O : X.Ok k) (ra : Rep Plain s.heap va a) (rb : Rep Plain s.heap vb b) : Ev X (compareOp op va vb) (cmpD op a b) VB s := by
  cases op with
  | Lt => exact ev_ord ra rb fun i j t u => .prim fun Q E h => PySem.P.lt_int (h _ _ (.refl _) rfl)
  | LtE => exact ev_ord ra rb fun i j t u => .prim fun Q E h => PySem.P.le_int (h _ _ (.refl _) rfl)
  | Gt => exact ev_ord ra rb fun i j t u => .prim fun Q E h => PySem.P.gt_int (h _ _ (.refl _) rfl)
  | GtE => exact ev_ord ra rb fun i j t u => .prim fun Q E h => PySem.P.ge_int (h _ _ (.refl _) rfl)
  | Eq =>
    show Ev X _ (eqR (eqD 4 a b)) VB s
    cases h : eqD 4 a b with
    | some r => exact ev_eq O h ra rb
    | none => exact .stuck
  | NotEq =>
    show Ev X _ (neR (eqD 4 a b)) VB s
    cases h : eqD 4 a b with
    | some r => exact ev_ne O h ra rb
    | none => exact .stuck
  | In =>
    cases ra with
    | int i t =>
      cases b with
      | tup ds => exact (ev_inT rb).1
      | _ => exact .stuck
    | str y t =>
      cases rb with
      | str x u => exact .prim fun Q E h => PySem.SB.contains (h _ _ (.refl _) rfl)
      | _ => exact .stuck
    | _ => exact .stuck
  | NotIn =>
    cases ra with
    | int i t =>
      cases b with
      | tup ds => exact (ev_inT rb).2
      | _ => exact .stuck
    | _ => exact .stuck
  | Is =>
    cases ra with
    | none =>
      cases rb with
      | none => exact .prim fun Q E h => fun _ _ _ => h _ _ (.refl _) rfl
      | _ => exact .stuck
    | int i t =>
      cases rb with
      | none => exact .prim fun Q E h => fun _ _ _ => h _ _ (.refl _) rfl
      | _ => exact .stuck
    | typ n =>
      cases rb with
      | typ m => exact .prim fun Q E h => fun _ _ _ => h (.bool _) _ (.refl _) (congrArg Value.bool (by rw [Bool.eq_iff_iff]; simp))
      | _ => exact .stuck
    | _ => exact .stuck
  | _ => exact .stuck

/-! items, lengths, types -/
theorem slice_not {i : Expr} {o v : Value} (h : ∀ a b p, i ≠ .Slice a b Option.none p) : subscripted i false o v = operate [o, v] (getItem o v) := by
  unfold subscripted
  split
  · exact absurd rfl (h _ _ _)
  · rename_i q; cases q
  · rfl
theorem seqIndex_nat {i : Int} {n : Nat} (h0 : 0 ≤ i) (h : i.toNat < n) : seqIndex? i n = some i.toNat := by
  unfold seqIndex?
  simp only [show ¬ i < 0 from by (first | lia | omega), if_false]
  rw [if_pos (by simp only [Bool.and_eq_true, decide_eq_true_eq]; (first | lia | omega))]

theorem ev_idx {a b : D} {va vb : Value} {value slice : Expr} (hs : ∀ a b p, slice ≠ .Slice a b Option.none p) (ra : Rep Plain s.heap va a) (rb : Rep Plain s.heap vb b) : Ev X (subscriptTail value slice va vb) (idxD a b) V s := by
  cases rb with
  | int i u =>
    cases ra with
    | @tup ad vs ds ht hr =>
      show Ev X _ (if 0 ≤ i ∧ i < 1000000 then _ else _) V s
      split
      · rename_i h
        cases hd : ds[i.toNat]? with
        | none => exact .stuck
        | some d =>
          obtain ⟨v, hv, r⟩ := hr.get hd
          have hl := (List.getElem?_eq_some_iff.mp hv).1
          exact .prim fun Q E hq => item_tupleT ht (by (first | lia | omega)) (by (first | lia | omega)) (seqIndex_nat h.1 hl) hv (hq _ _ (.refl _) r) (slice_not hs)
      · exact .stuck
    | @lst ad vs ds _ ht hr =>
      show Ev X _ (if 0 ≤ i ∧ i < 1000000 then _ else _) V s
      split
      · rename_i h
        cases hd : ds[i.toNat]? with
        | none => exact .stuck
        | some d =>
          obtain ⟨v, hv, r⟩ := hr.get hd
          exact .prim fun Q E hq => tail_any ht.typeIs slot_list_getitem.lookup (wpAny_getItem_list ht h.1 (by (first | lia | omega)) (by simpa using hv) (hq _ _ (.refl _) r)) (slice_not hs)
      · exact .stuck
    | bytes l t =>
      show Ev X _ (if 0 ≤ i ∧ l.length ≤ line then _ else _) V s
      split
      · rename_i h
        cases hc : l[i.toNat]? with
        | none => exact .stuck
        | some c =>
          obtain ⟨hl, hc'⟩ := List.getElem?_eq_some_iff.mp hc
          refine .prim fun Q E hq => tail_any (PySem.W.typeIs_bytes _ _ _) PySem.W.FB.slot_bytes_getitem.lookup (PySem.W.getItem_bytes (by have := h.2; unfold line at this; (first | lia | omega)) h.1 (by (first | lia | omega)) ?_) (slice_not hs)
          rw [List.getD_eq_getElem?_getD, hc]
          exact hq _ _ (.toks _ _) (.int _ _)
      · exact .stuck
    | _ => exact .stuck
  | _ => exact .stuck

theorem ev_len {a : D} {va : Value} (ra : Rep Plain s.heap va a) : Ev X (call (.builtin "len") [va]) (lenD a) V s := by
  unfold lenD
  cases ra with
  | bytes l t =>
    dsimp only
    split
    · rename_i h
      refine .prim fun Q E hq => PySem.W.len_bytes (by unfold line at h; simp; (first | lia | omega)) ?_
      rw [List.size_toArray]
      exact hq _ _ (.toks _ _) (.int _ _)
    · exact .stuck
  | tup ht hr =>
    dsimp only
    split
    · rename_i h
      refine .prim fun Q E hq => PyProof.Rows.len_tuple ht (by unfold line at h; simp [hr.length]; (first | lia | omega)) ?_
      rw [List.size_toArray, hr.length]
      exact hq _ _ (.toks _ _) (.int _ _)
    · exact .stuck
  | lst _ ht hr =>
    dsimp only
    split
    · rename_i h
      refine .prim fun Q E hq => PyProof.Rows.len_list ht (by unfold line at h; simp [hr.length]; (first | lia | omega)) ?_
      rw [List.size_toArray, hr.length]
      exact hq _ _ (.toks _ _) (.int _ _)
    · exact .stuck
  | str x t =>
    dsimp only
    split
    · rename_i h
      refine .prim fun Q E hq => PyProof.Rows.len_str (by unfold line at h; (first | lia | omega)) ?_
      exact hq _ _ (.toks _ _) (.int _ _)
    · exact .stuck
  | _ => exact .stuck

theorem ev_typ {a : D} {va : Value} (ra : Rep Plain s.heap va a) : Ev X (call (.type "type") [va]) (typD a) V s := by
  unfold typD
  cases ra with
  | tup ht hr => exact .prim fun Q E hq => call_type_of ht.typeIs (by decide) (hq _ _ (.refl _) (.typ _))
  | lst _ ht hr => exact .prim fun Q E hq => call_type_of ht.typeIs (by decide) (hq _ _ (.refl _) (.typ _))
  | int i t => exact .prim fun Q E hq => call_type_of (typeIs_int _ _ _) (by decide) (hq _ _ (.refl _) (.typ _))
  | str i t => exact .prim fun Q E hq => call_type_of (typeIs_str _ _ _) (by decide) (hq _ _ (.refl _) (.typ _))
  | bytes i t => exact .prim fun Q E hq => call_type_of (PySem.W.typeIs_bytes _ _ _) (by decide) (hq _ _ (.refl _) (.typ _))
  | _ => exact .stuck
end
end
end Mine
namespace Mine
section
open PySem PySem.Calls PySem.Spec PyProof.Rows PySem.SeqAt

noncomputable def CutBytes : Prop := ∀ (prog : Program) (w : World) (A : Around) (E : Value → Shared → Prop) (s : Shared) (b : List UInt8) (t : Tok) (l u : Value) (lo hi : Option Int) (a : Addr) (Q : Value → Shared → Prop), IsPart l lo → IsPart u hi → b.length ≤ 16777216 → s.heap.IsSliceOf a l u .none →
  (∀ t' k, Q (.bytes ((b.drop (lo.elim 0 (clipAt b.length))).take (hi.elim b.length (clipAt b.length) - lo.elim 0 (clipAt b.length))).toArray t') { s with toks := k }) → wpAny (model prog w) A (getItem (.bytes b.toArray t) (.ref a)) Q E s
noncomputable def MakeBytes : Prop := ∀ (prog : Program) (w : World) (A : Around) (E : Value → Shared → Prop) (s : Shared) (l : Addr) (vs : List Value) (ns : List Int) (Q : Value → Shared → Prop), s.heap.IsList l vs.toArray → IntsAre vs ns → (∀ n ∈ ns, 0 ≤ n ∧ n < 256) → vs.length ≤ sizeLine → A.handled = none →
  (∀ h' t k, (∀ b o, s.heap.get? b = some o → h'.get? b = some o) → Q (.bytes (ns.map fun n => n.toNat.toUInt8).toArray t) { s with heap := h', toks := k }) → wpAny (model prog w) A (call (.type "bytes") [.ref l]) Q E s
noncomputable def JoinBytes : Prop := ∀ (prog : Program) (w : World) (A : Around) (E : Value → Shared → Prop) (s : Shared) (l : Addr) (t : Tok) (vs : List Value) (bs : List (List UInt8)) (Q : Value → Shared → Prop), s.heap.IsList l vs.toArray → RepL Plain s.heap vs (bs.map D.bytes) → bs ≠ [] → bs.length ≤ 1000 → bs.flatten.length ≤ 16777216 → A.handled = none →
  (∀ h' t k, (∀ b o, s.heap.get? b = some o → h'.get? b = some o) → Q (.bytes bs.flatten.toArray t) { s with heap := h', toks := k }) → wpAny (model prog w) A (call (.builtin "bytes.join") [.bytes #[] t, .ref l]) Q E s
structure Prims : Prop where
  add : AddBytes
  mul : MulBytes
  cut : CutBytes
  make : MakeBytes
  join : JoinBytes

theorem clip_eq (n : Nat) (i : Int) : clipAt n i = clip n i := by
  unfold clipAt clip
  split <;> (first | lia | omega)

section
variable {X : Cx} {s : Shared} {k : Nat}
theorem part_of {d : D} {v : Value} {p : Option Int} (r : Rep Plain s.heap v d) (h : partD d = .ok p) : IsPart v p := by
  cases r with
  | none => cases h; exact .none
  | int => cases h; exact .int _ _
  | _ => cases h

theorem slice_is {lo hi : Option Expr} {p : Pos} {o v : Value} : subscripted (.Slice lo hi Option.none p) false o v = operate [v, o] (getItem o v) := rfl

theorem ev_cut (P : Prims) {a : D} {l h : Option Int} {va vl vh : Value} {lo hi : Option Expr} {p : Pos} {value : Expr} (ra : Rep Plain s.heap va a) (pl : IsPart vl l) (ph : IsPart vh h) (hr : cutD a l h ≠ .stuck)
    {Q : Value → Shared → Prop} {E : Value → Shared → Prop} (hQ : ∀ v s', Adv0 X s s' → (∃ b, cutD a l h = .ok b ∧ V s'.heap v b) → Q v s') :
    wpAny X.M X.AA (subscriptTail value (.Slice lo hi Option.none p) va (.ref s.heap.objs.size)) Q E { s with heap := s.heap.push { cls := .type "slice", data := .fields #[vl, vh, .none] } } := by
  have keep : ∀ b o, s.heap.get? b = some o → (s.heap.push { cls := .type "slice", data := .fields #[vl, vh, .none] }).get? b = some o := fun b o e => Heap.get?_push_of_some _ e
  unfold cutD at hr hQ
  cases ra with
  | bytes b t =>
    dsimp only at hr hQ
    split at hr
    · rename_i hz
      rw [if_pos hz] at hQ
      refine tail_any (PySem.W.typeIs_bytes _ _ _) PySem.W.FB.slot_bytes_getitem.lookup (P.cut _ _ _ _ _ b t vl vh l h _ _ pl ph (by unfold line at hz; exact hz) (Heap.IsSliceOf.new _ _ _ _) fun t' k => ?_) slice_is
      refine hQ _ _ (.keeps (k := k) keep) ⟨_, rfl, ?_⟩
      unfold cut
      have e : ∀ n : Nat, clipAt n = clip n := fun n => funext (clip_eq n)
      rw [e]
      exact .bytes _ _
    · exact absurd rfl hr
  | @lst a vs ds n ht hrs =>
    dsimp only at hr hQ
    split at hr
    · rename_i hz
      rw [if_pos hz] at hQ
      refine tail_any (T := "list") (ht.push _).typeIs slot_list_getitem.lookup (wpAny_getItem_list_slice (ht.push _) (Heap.IsSliceOf.new ..) pl ph .none (by simp) ?_ (by rw [sizeLine_eq]; simp [hrs.length]; (first | lia | omega))) slice_is
      have x1 : Ext X.fs s.heap ((s.heap.push { cls := .type "slice", data := .fields #[vl, vh, .none] }).push { cls := .type "list", data := .seq (slicePick vs.toArray l h Option.none) }) :=
        (Ext.push _ _ _).trans (Ext.push _ _ _)
      have e1 : slicePick vs.toArray l h Option.none = (cut vs l h).toArray := by
        rw [slicePick_plain]
        have e : ∀ n : Nat, clipAt n = clip n := fun n => funext (clip_eq n)
        simp only [e, List.size_toArray]
        rfl
      have e2 : cut ds l h = (ds.drop (l.elim 0 (clip vs.length))).take (h.elim vs.length (clip vs.length) - l.elim 0 (clip vs.length)) := by
        rw [hrs.length]; rfl
      refine hQ _ _ ⟨_, _, rfl, x1⟩ ⟨_, rfl, .lst (vs := cut vs l h) trivial ⟨_, Heap.get?_push_size _ rfl, rfl, 0, by rw [e1]⟩ ?_⟩
      rw [e2]
      exact ((hrs.ext x1).drop _).take _
    · exact absurd rfl hr
  | str x t =>
    dsimp only at hr hQ
    split at hr
    · rename_i hz
      rw [if_pos hz] at hQ
      have kp : KeptH (fun h' => ∀ b o, s.heap.get? b = some o → h'.get? b = some o) := fun h ob q b o e => Heap.get?_push_of_some _ (q b o e)
      have hsz : x.length ≤ sizeLine := by rw [sizeLine_eq]; (first | lia | omega)
      cases pl <;> cases ph
      · exact tail_of_ItemOn (SBH.sliceItem_nn kp (fun _ _ e => e) (fun h' t' k q => hQ _ _ (.keeps q) ⟨_, rfl, .str _ _⟩) hsz) slice_is (fun _ => by cases value <;> rfl)
      · exact tail_of_ItemOn (SBH.sliceItem_ns kp (fun _ _ e => e) (fun h' t' k q => hQ _ _ (.keeps q) ⟨_, rfl, .str _ _⟩) hsz) slice_is (fun _ => by cases value <;> rfl)
      · exact tail_of_ItemOn (SBH.sliceItem_sn kp (fun _ _ e => e) (fun h' t' k q => hQ _ _ (.keeps q) ⟨_, rfl, .str _ _⟩) hsz) slice_is (fun _ => by cases value <;> rfl)
      · exact tail_of_ItemOn (SBH.sliceItem_ss kp (fun _ _ e => e) (fun h' t' k q => hQ _ _ (.keeps q) ⟨_, rfl, .str _ _⟩) hsz) slice_is (fun _ => by cases value <;> rfl)
    · exact absurd rfl hr
  | _ => exact absurd rfl hr

/-! displays, calls -/
theorem ev_newTuple {vs : List Value} {ds : List D} (hr : RepL Plain s.heap vs ds) (hz : ds.length ≤ 1000) : Ev X (newTuple vs) (.ok (D.tup ds)) V s :=
  .prim fun Q E h => wpAny_newObj_type (h _ _ (.keeps fun _ _ e => Heap.get?_push_of_some _ e) (.tup ⟨_, Heap.get?_push_size _ rfl, rfl, 0, rfl⟩ (hr.ext (Ext.push X.fs _ _))))
    (by show vs.toArray.size ≤ sizeLine; rw [sizeLine_eq, List.size_toArray, hr.length]; (first | lia | omega))
theorem ev_newList {vs : List Value} {ds : List D} (hr : RepL Plain s.heap vs ds) (hz : ds.length ≤ 1000) : Ev X (newList vs) (.ok (D.lst ds)) V s :=
  .prim fun Q E h => wpAny_newObj_type (h _ _ (.keeps fun _ _ e => Heap.get?_push_of_some _ e) (.lst trivial ⟨_, Heap.get?_push_size _ rfl, rfl, 0, rfl⟩ (hr.ext (Ext.push X.fs _ _))))
    (by show vs.toArray.size ≤ sizeLine; rw [sizeLine_eq, List.size_toArray, hr.length]; (first | lia | omega))

theorem star_cons {e : Expr} {rest : List Expr} {env : Env} (h : notStar e = true) : starEach (e :: rest) env = (false, eval e env) :: starEach rest env := by
  cases e <;> first | rfl | (cases h)
theorem stars_plain {pos : Pos} {env : Env} : ∀ {es : List Expr}, noStars es = true → (backTo pos (starEach es env)).any (·.1) = false
  | [], _ => rfl
  | e :: es, h => by
    simp only [noStars, List.all_cons, Bool.and_eq_true] at h
    rw [star_cons h.1]
    show (false || (backTo pos (starEach es env)).any (·.1)) = false
    rw [stars_plain (es := es) h.2]; rfl

/-- a def of the text's, called -/
theorem ev_callDef {C : Cfg} {f : Str} {ds : List D} {vals : List Value} {q : PS} {oa : Option Addr} (O : X.Ok (k + 1)) (hF : CallOk X.W k f ds (C.F f ds)) (S : St X q oa s.heap) (hr : RepL Plain s.heap vals ds) :
    ∃ a o fd, X.W.mg f = some (.ref a) ∧ X.W.base.get? a = some o ∧ o.data = .func fd ∧ Ev X (call (.ref a) vals) (C.F f ds) V s := by
  obtain ⟨a, o, fd, h1, h2, h3, h4⟩ := hF
  refine ⟨a, o, fd, h1, h2, h3, fun _ => ?_⟩
  have w := h4 X.AA (X.env :: X.outer) s vals (Around.frames_deeper O.frames) O.handled (by show X.A.depth + 1 + k < _; have := O.depth; (first | lia | omega))
    (by show X.A.units + 3 + 100 * (k + 1) < _; have := O.units; (first | lia | omega)) S.stays S.frames (S.dicts O) hr
  refine wpAny_mono w (fun v s' x => ?_) fun e s' x => ?_
  · obtain ⟨d, h', tk, e1, e2, e3, e4⟩ := x
    subst e2
    exact ⟨d, e1, ⟨h', tk, rfl, e3⟩, e4⟩
  · obtain ⟨e1, ea, h', tk, e2, e3, e4, e5, e6, a0, e7⟩ := x
    exact ⟨e1, ea, h', tk, e2, e3, ⟨e4, e5, e6, .inr ⟨a0, e7⟩⟩⟩

theorem byteInts_spec {vs : List Value} : ∀ {ds : List D} {l : List UInt8}, RepL Plain s.heap vs ds → byteInts ds = some l → ∃ ns, IntsAre vs ns ∧ (∀ n ∈ ns, 0 ≤ n ∧ n < 256) ∧ l = ns.map fun n => n.toNat.toUInt8 := by
  induction vs with
  | nil =>
    intro ds l hr h
    cases hr
    cases h
    exact ⟨[], .nil, by simp, rfl⟩
  | cons v vs ih =>
    intro ds l hr h
    cases hr with
    | cons a r =>
      cases a with
      | int i t =>
        unfold byteInts at h
        split at h
        · rename_i hi
          cases hb : byteInts _ with
          | none => rw [hb] at h; simp at h
          | some l' =>
            rw [hb] at h
            simp at h
            obtain ⟨ns, h1, h2, h3⟩ := ih r hb
            refine ⟨i :: ns, .cons i t h1, ?_, by rw [← h, h3]; rfl⟩
            intro n hn
            rcases List.mem_cons.mp hn with rfl | hn
            · exact hi
            · exact h2 n hn
        · simp at h
      | _ => cases h

theorem allBytes_spec : ∀ {ds : List D} {ls : List (List UInt8)}, allBytes ds = some ls → ds = ls.map D.bytes
  | [], ls, h => by cases h; rfl
  | d :: ds, ls, h => by
    cases d with
    | bytes l =>
      unfold allBytes at h
      cases hb : allBytes ds with
      | none => rw [hb] at h; simp at h
      | some l' =>
        rw [hb] at h
        simp at h
        subst h
        rw [allBytes_spec hb]; rfl
    | _ => cases h

theorem ev_make (P : Prims) (O : X.Ok k) {a : D} {va : Value} (ra : Rep Plain s.heap va a) : Ev X (call (.type "bytes") [va]) (bytesD a) V s := by
  unfold bytesD
  cases ra with
  | @lst a vs ds n ht hr =>
    dsimp only
    split
    · rename_i hz
      split
      · rename_i l hl
        obtain ⟨ns, h1, h2, h3⟩ := byteInts_spec hr hl
        refine .prim fun Q E h => P.make _ _ _ _ _ _ _ ns _ ht h1 h2 (by rw [sizeLine_eq, hr.length]; exact hz) O.handled fun h' t k hk => ?_
        rw [← h3]
        exact h _ _ (.keeps hk) (.bytes _ _)
      · exact .stuck
    · exact .stuck
  | _ => exact .stuck
end
end
end Mine
namespace Mine
section
open PySem PySem.Calls PySem.Spec PyProof.Rows PySem.SeqAt

section
variable {X : Cx} {k : Nat} {C : Cfg}

theorem base_plain {o : Expr} {name : Str} {env : Env} {t : Sem Value} (h : plainBase o = true) : attributeBase o name env t = t := by
  cases o <;> first | rfl | (cases h)

theorem ev_spliced {q : PS} {oa : Option Addr} {n : Nat} {pos : Pos}
    (hE : ∀ s e, St X q oa s.heap → 1 ≤ s.toks → Ev X (eval e X.env) (evE C n q e) V s)
    (hEs : ∀ s es, St X q oa s.heap → 1 ≤ s.toks → Ev X (spliced (backTo pos (starEach es X.env))) (evEs C n q es) VL s) {s : Shared} (S : St X q oa s.heap) (tk : 1 ≤ s.toks) :
    ∀ es, Ev X (spliced (backTo pos (starEach es X.env))) (evEs C (n + 1) q es) VL s
  | [] => by
    rw [show evEs C (n + 1) q [] = .ok [] from rfl]
    exact .prim fun Q E h => args_nil (h _ _ (.refl _) .nil)
  | e :: r => by
    intro hr
    have e0 : evEs C (n + 1) q (e :: r) = (evE C n q e).bind fun d => (evEs C n q r).bind fun ds => .ok (d :: ds) := rfl
    rw [e0] at hr ⊢
    have hs : notStar e = true := by
      cases e <;> first | rfl | (exfalso; apply hr; cases n <;> rfl)
    refine args_cons ?_ (star_cons hs)
    refine (hE s e S tk).use (bind_ne hr) (fun v d s₁ e1 x1 rv => ?_) (fun _ _ e y => ⟨by rw [e]; rfl, y⟩)
    have hr' := bind_ne' e1 hr
    rw [e1]
    refine (hEs s₁ r (S.adv x1.ext) (Nat.le_trans tk x1.tk)).use (bind_ne hr') (fun vs ds s₂ e2 x2 r2 => ⟨d :: ds, by rw [e2]; rfl, (x1.trans x2).zero, .cons (rv.ext x2.ext) r2⟩)
      (fun _ _ e y => ⟨by rw [e]; rfl, y.back x1.zero⟩)

theorem evEs_length {q : PS} : ∀ {n : Nat} {es : List Expr} {ds : List D}, evEs C n q es = .ok ds → ds.length = es.length
  | 0, _, _, h => by cases h
  | n + 1, [], ds, h => by cases h; rfl
  | n + 1, e :: es, ds, h => by
    have e0 : evEs C (n + 1) q (e :: es) = (evE C n q e).bind fun d => (evEs C n q es).bind fun ds => .ok (d :: ds) := rfl
    rw [e0] at h
    cases h1 : evE C n q e with
    | ok d =>
      rw [h1] at h
      cases h2 : evEs C n q es with
      | ok ds' =>
        rw [h2] at h
        simp [R.bind] at h
        subst h
        rw [List.length_cons, List.length_cons, evEs_length h2]
      | raise => rw [h2] at h; simp [R.bind] at h
      | stuck => rw [h2] at h; simp [R.bind] at h
    | raise => rw [h1] at h; simp [R.bind] at h
    | stuck => rw [h1] at h; simp [R.bind] at h

/-- the built-ins, called -/
theorem ev_builtin (P : Prims) {j : Nat} (O : X.Ok j) {f : Str} (hf : callables.contains f = true) :
    ∃ v, bootBuiltins f = some v ∧ f ≠ "__name__" ∧ ((∃ id, v = .builtin id) ∨ ∃ T, v = .type T) ∧ ∀ (ds : List D) (s : Shared) (vals : List Value), RepL Plain s.heap vals ds → Ev X (call v vals) (builtinD f ds) V s := by
  have one : ∀ {ds : List D} {s : Shared} {vals : List Value} {v : Value} {g : D → R D}, RepL Plain s.heap vals ds →
      (∀ {a : D} {va : Value}, Rep Plain s.heap va a → Ev X (call v [va]) (g a) V s) → Ev X (call v vals) (oneD g ds) V s := by
    intro ds s vals v g hr h3
    cases hr with
    | nil => exact .stuck
    | cons r1 hr =>
      cases hr with
      | nil => exact h3 r1
      | cons r2 hr => exact .stuck
  have two : ∀ {ds : List D} {s : Shared} {vals : List Value} {v : Value} {g : Int → Int → Int}, RepL Plain s.heap vals ds →
      (∀ {a b : Int} {t u : Tok}, Ev X (call v [.int a t, .int b u]) (.ok (.int (g a b))) V s) → Ev X (call v vals) (twoD g ds) V s := by
    intro ds s vals v g hr h3
    cases hr with
    | nil => exact .stuck
    | cons r1 hr =>
      cases hr with
      | nil => intro h; apply absurd _ h; cases r1 <;> rfl
      | cons r2 hr =>
        cases hr with
        | nil =>
          cases r1 with
          | int a t =>
            cases r2 with
            | int b u => exact h3
            | _ => exact .stuck
          | _ => exact .stuck
        | cons r3 hr => intro h; apply absurd _ h; cases r1 <;> first | rfl | (cases r2 <;> rfl)
  simp only [callables, List.contains_cons, List.contains_nil, Bool.or_false, Bool.or_eq_true, beq_iff_eq] at hf
  unfold builtinD
  rcases hf with rfl | rfl | rfl | rfl | rfl
  · refine ⟨.builtin "len", by decide +kernel, by decide +kernel, .inl ⟨_, rfl⟩, fun ds s vals hr => ?_⟩
    rw [if_pos rfl]
    exact one hr fun r => ev_len r
  · refine ⟨.type "bytes", by decide +kernel, by decide +kernel, .inr ⟨_, rfl⟩, fun ds s vals hr => ?_⟩
    rw [if_neg (by decide +kernel), if_pos rfl]
    exact one hr fun r => ev_make P O r
  · refine ⟨.type "type", by decide +kernel, by decide +kernel, .inr ⟨_, rfl⟩, fun ds s vals hr => ?_⟩
    rw [if_neg (by decide +kernel), if_neg (by decide +kernel), if_pos rfl]
    exact one hr fun r => ev_typ r
  · refine ⟨.builtin "min", by decide +kernel, by decide +kernel, .inl ⟨_, rfl⟩, fun ds s vals hr => ?_⟩
    rw [if_neg (by decide +kernel), if_neg (by decide +kernel), if_neg (by decide +kernel), if_pos rfl]
    refine two hr (.prim fun Q E h => min_two_ints O.handled fun h' tk hk => ?_)
    unfold minI at h
    split
    · rename_i c; rw [if_pos c] at h; exact h _ _ (.keeps hk) (.int _ _)
    · rename_i c; rw [if_neg c] at h; exact h _ _ (.keeps hk) (.int _ _)
  · refine ⟨.builtin "max", by decide +kernel, by decide +kernel, .inl ⟨_, rfl⟩, fun ds s vals hr => ?_⟩
    rw [if_neg (by decide +kernel), if_neg (by decide +kernel), if_neg (by decide +kernel), if_neg (by decide +kernel), if_pos rfl]
    refine two hr (.prim fun Q E h => max_two_ints O.handled fun h' tk hk => ?_)
    unfold maxI at h
    split
    · rename_i c; rw [if_pos c] at h; exact h _ _ (.keeps hk) (.int _ _)
    · rename_i c; rw [if_neg c] at h; exact h _ _ (.keeps hk) (.int _ _)

/-- a call by name -/
theorem ev_call (P : Prims) (O : X.Ok (k + 1)) (K : CfgOk C X k) {q : PS} {oa : Option Addr} {n : Nat} {f : Str} {np pos : Pos} {a : Expr} {args : List Expr} {s : Shared} (S : St X q oa s.heap)
    (hs : noStars (a :: args) = true) (hc : calleeOk C f = true) (hEs : Ev X (spliced (backTo pos (starEach (a :: args) X.env))) (evEs C n q (a :: args)) VL s) :
    Ev X (eval (.Call (.Name f np) (a :: args) [] pos) X.env) ((evEs C n q (a :: args)).bind fun ds => callD C f ds) V s := by
  intro hr
  have hs1 : notStar a = true := by simp only [noStars, List.all_cons, Bool.and_eq_true] at hs; exact hs.1
  have hs2 : noStars args = true := by simp only [noStars, List.all_cons, Bool.and_eq_true] at hs; exact hs.2
  simp only [calleeOk, Bool.and_eq_true, Bool.not_eq_true', beq_eq_false_iff_ne, beq_iff_eq] at hc
  obtain ⟨⟨hd, hk⟩, hc⟩ := hc
  have hk' : X.scope.names.lookup f = some .globalImplicit := by rw [K.sc]; exact hk
  have hd : f ≠ Str.ofString "__debug__" := by simpa using hd
  refine Call_ ?_
  unfold callD at hr ⊢
  by_cases hB : C.B.contains f = true
  · rw [if_pos hB] at hc
    obtain ⟨v, hv, hn, hty, hcall⟩ := ev_builtin (X := X) P O hc
    refine wp_topName O.w S.stays O.kind hk' (.inr ⟨K.B f hB, hn, hv⟩) hd ?_
    simp only [hB, if_true] at hr ⊢
    rcases hty with ⟨id, rfl⟩ | ⟨T, rfl⟩
    · exact callWith_builtin1 (hEs.then (fun vs ds s₁ _ x rv => hcall ds s₁ vs rv) hr) (star_cons hs1) (stars_plain hs2)
    · exact callWith_type1 (hEs.then (fun vs ds s₁ _ x rv => hcall ds s₁ vs rv) hr) (star_cons hs1) (stars_plain hs2)
  · have hB' : C.B.contains f = false := by simpa using hB
    rw [hB'] at hc
    simp only [hB', Bool.false_eq_true, if_false] at hr hc ⊢
    obtain ⟨fa, fo, fd, h1, h2, h3⟩ := K.fns f hc
    refine wp_topName O.w S.stays O.kind hk' (.inl h1) hd ?_
    refine callWith_def (o := fo) (fd := fd) h3 ?_ (star_cons hs1)
    refine hEs.use (bind_ne hr) (fun vs ds s₁ e1 x rv => ?_) (fun _ _ e y => ⟨by rw [e]; rfl, y⟩)
    have hr' := bind_ne' e1 hr
    refine ⟨(S.adv x.ext).stays _ _ h2, ?_⟩
    obtain ⟨fa', _, _, g1, _, _, hcall⟩ := ev_callDef O (K.F f ds hr') (S.adv x.ext) rv
    have : fa' = fa := by rw [h1] at g1; cases g1; rfl
    subst this
    rw [e1]
    exact wpAny_mono (hcall hr') (fun _ _ z => z.of x.zero rfl) fun _ _ z => Exc.of x.zero (fun q => q) z
end
end
end Mine
namespace Mine
section
open PySem PySem.Calls PySem.Spec PyProof.Rows PySem.SeqAt

section
variable {X : Cx} {k : Nat} {C : Cfg} {q : PS} {oa : Option Addr}

theorem join_slot : Slot "bytes" "join" "bytes.join" :=
  .of (owner := "bytes") (n := "join") (by rw [typeLookup_type, builtinLookup_eq_fast]; kernel_rfl) (by decide +kernel) (by decide +kernel) (by decide +kernel)
    (by first | exact .inl (by decide +kernel) | exact .inr (by decide +kernel)) (by rw [isSubtype_type]; kernel_rfl)
theorem join_type : typeOf (.builtin "bytes.join") = pure (.type "method_descriptor") := by show builtinType _ = _; rw [builtinType_eq_fast]; kernel_rfl

theorem ev_join (P : Prims) (O : X.Ok k) {s : Shared} {d : D} {t : Tok} {v : Value} (r : Rep Plain s.heap v d) : Ev X (call (.builtin "bytes.join") [.bytes #[] t, v]) (joinD d) V s := by
  unfold joinD
  cases r with
  | @lst a vs ds n ht hr =>
    dsimp only
    split
    · rename_i ls hl
      split
      · rename_i h
        have e := allBytes_spec hl
        subst e
        exact .prim fun Q E hq => P.join _ _ _ _ _ _ _ _ ls _ ht hr (by intro e; subst e; simp at h) (by simpa using h.2.1) (by have := h.2.2; unfold line at this; exact this) O.handled fun h' t k hk => hq _ _ (.keeps hk) (.bytes _ _)
      · exact .stuck
    · exact .stuck
  | _ => exact .stuck

noncomputable def methR (C : Cfg) (n : Nat) (q : PS) (name : Str) (as : List Expr) (ov : D) : R D :=
  match strPair as with
  | some yz => replD ov name yz.1 yz.2
  | none => if methOk ov name as.length then (evEs C n q as).bind fun ds => oneD joinD ds else .stuck

structure EvAll (X : Cx) (C : Cfg) (q : PS) (oa : Option Addr) (n : Nat) : Prop where
  e : ∀ s e, St X q oa s.heap → 1 ≤ s.toks → Ev X (eval e X.env) (evE C n q e) V s
  es : ∀ pos s es, St X q oa s.heap → 1 ≤ s.toks → Ev X (spliced (backTo pos (starEach es X.env))) (evEs C n q es) VL s
  o : ∀ s e, St X q oa s.heap → 1 ≤ s.toks → Ev X (evalPart e X.env) (evO C n q e) V s

theorem ev_method (P : Prims) (O : X.Ok (k + 1)) {n : Nat} (A : EvAll X C q oa n) {o : Expr} {name : Str} {ap p : Pos} {a : Expr} {args : List Expr} {s : Shared} (S : St X q oa s.heap) (tk : 1 ≤ s.toks)
    (hb : plainBase o = true) (hs : noStars (a :: args) = true) (hl : (ap.endLine == p.line) = true) (hlen : (a :: args).length < 30) :
    Ev X (eval (.Call (.Attribute o name ap) (a :: args) [] p) X.env) ((evE C n q o).bind fun ov => methR C n q name (a :: args) ov) V s := by
  intro hr
  have hs1 : notStar a = true := by simp only [noStars, List.all_cons, Bool.and_eq_true] at hs; exact hs.1
  have hs2 : noStars args = true := by simp only [noStars, List.all_cons, Bool.and_eq_true] at hs; exact hs.2
  have hfew : ((backTo p (starEach (a :: args) X.env)).all (fun x => !x.1) && (backToKw p (keywordEach [] X.env)).all (fun x => x.1.isSome)
      && decide ((a :: args).length + ([] : List Keyword).length + (if ([] : List Keyword).isEmpty then 0 else 1) < 30)) = true := by
    have h1 := stars_plain (pos := p) (env := X.env) hs
    simp only [Bool.and_eq_true]
    refine ⟨⟨?_, rfl⟩, ?_⟩
    · rw [List.all_eq_true]
      intro x hx
      rw [List.any_eq_false] at h1
      simpa using h1 x hx
    · simpa using hlen
  refine wpAny_Call_method_lateS (base_plain hb) hfew hl ?_
  refine (A.e s o S tk).use (bind_ne hr) (fun ov d s₁ e1 x1 rv => ?_) (fun _ _ e y => ⟨by rw [e]; rfl, y⟩)
  have hr' := bind_ne' e1 hr
  have tk₁ : 1 ≤ s₁.toks := Nat.le_trans tk x1.tk
  rw [e1]
  show MethodOnS _ _ _ (Exc X s (methR C n q name (a :: args) d)) _ _ _ _ (Post X s (methR C n q name (a :: args) d) V) _
  have hr' : methR C n q name (a :: args) d ≠ .stuck := hr'
  unfold methR at hr' ⊢
  cases hp : strPair (a :: args) with
  | some yz =>
    obtain ⟨y, z⟩ := yz
    rw [hp] at hr'
    have hr'' : replD d name y z ≠ .stuck := hr'
    show MethodOnS _ _ _ (Exc X s (replD d name y z)) _ _ _ _ (Post X s (replD d name y z) V) _
    unfold strPair at hp
    split at hp
    · rename_i y' k1 p1 z' k2 p2 e
      simp only [Option.some.injEq, Prod.mk.injEq] at hp
      obtain ⟨rfl, rfl⟩ := hp
      unfold replD at hr'' ⊢
      cases rv with
      | str x t =>
        dsimp only at hr'' ⊢
        split at hr''
        · rename_i h
          rw [if_pos h]
          obtain ⟨hn, hyz, hz⟩ := h
          subst hn
          rw [e]
          refine ⟨"str", "str.replace", F.plainAttrs_str, F.slot_str_replace, F.type_str_replace, typeIs_str _ _ _, (fun _ e => nomatch e), ?_⟩
          refine callWith_method1 ?_
          refine args_cons (wpAny_Constant_str (args_cons (wpAny_Constant_str (args_nil ?_))))
          refine SC.replace (u := s₁.toks) (v := s₁.toks + 1) (Nat.ne_of_gt tk₁) (Nat.succ_ne_zero _) (Nat.ne_of_lt (Nat.lt_succ_self _)) hyz (by unfold line at hz; exact hz) fun t' k' => ?_
          exact ⟨_, rfl, x1.zero.trans (.toks s₁ k'), .str _ _⟩
        · exact absurd rfl hr''
      | _ => exact absurd rfl hr''
    · simp at hp
  | none =>
    rw [hp] at hr'
    have hr'' : (if methOk d name (a :: args).length then (evEs C n q (a :: args)).bind fun ds => oneD joinD ds else .stuck) ≠ .stuck := hr'
    show MethodOnS _ _ _ (Exc X s (if methOk d name (a :: args).length then (evEs C n q (a :: args)).bind fun ds => oneD joinD ds else .stuck)) _ _ _ _ (Post X s (if methOk d name (a :: args).length then (evEs C n q (a :: args)).bind fun ds => oneD joinD ds else .stuck) V) _
    by_cases hm : methOk d name (a :: args).length = true
    · rw [if_pos hm] at hr'' ⊢
      unfold methOk at hm
      split at hm
      · simp only [Bool.and_eq_true, beq_iff_eq] at hm
        obtain ⟨hn, hl1⟩ := hm
        subst hn
        have ha : args = [] := by
          cases args with
          | nil => rfl
          | cons b r => simp at hl1
        subst ha
        cases rv with
        | bytes l t =>
        refine ⟨"bytes", "bytes.join", PySem.W.FB.plainAttrs_bytes, join_slot, join_type, PySem.W.typeIs_bytes _ _ _, (fun _ e => nomatch e), ?_⟩
        refine callWith_method1 ?_ (star_cons hs1) (stars_plain hs2)
        have hes := A.es p s₁ [a] (S.adv x1.ext) tk₁
        refine hes.use (bind_ne hr'') (fun vs ds s₂ e2 x2 r2 => ?_) (fun _ _ e y => ⟨by rw [e]; rfl, y.back x1.zero⟩)
        have hr3 := bind_ne' e2 hr''
        rw [e2]
        cases r2 with
        | nil => exact absurd rfl hr3
        | cons r3 r4 =>
          cases r4 with
          | nil => exact wpAny_mono (ev_join P O r3 hr3) (fun _ _ z => z.of (x1.trans x2).zero rfl) fun _ _ z => Exc.of (x1.trans x2).zero (fun q => q) z
          | cons r5 r6 => exact absurd rfl hr3
      · simp at hm
    · rw [if_neg hm] at hr''
      exact absurd rfl hr''

theorem slice_of {i : Expr} {lo hi : Option Expr} (h : sliceOf i = some (lo, hi)) : ∃ p, i = .Slice lo hi none p := by
  unfold sliceOf at h
  split at h
  · cases h; exact ⟨_, rfl⟩
  · cases h
theorem ev_cmpE (O : X.Ok (k + 1)) {n : Nat} (A : EvAll X C q oa n) {l r : Expr} {op : CmpOp} {p : Pos} {s : Shared} (S : St X q oa s.heap) (tk : 1 ≤ s.toks) :
    Ev X (eval (.Compare l [op] [r] p) X.env) (if behindInMarks op r then .stuck else (evE C n q l).bind fun a => (evE C n q r).bind fun b => (cmpD op a b).bind fun t => .ok (.bool t)) V s := by
  split
  · exact .stuck
  · rename_i hb
    intro hr
    refine wpAny_Compare1 (Ev.two stableV (A.e s _ S tk) (fun s' x => A.e s' _ (S.adv x.ext) (Nat.le_trans tk x.tk)) (fun a b x y s' _ r1 r2 => ?_) hr) (by simpa using hb)
    intro hr'
    refine (ev_cmp O r1 r2).use (bind_ne hr') (fun v t s'' e x2 hv => ⟨.bool t, by rw [e]; rfl, x2.zero, ?_⟩) (fun _ _ e y => ⟨by rw [e]; rfl, y⟩)
    rw [hv]
    exact .bool t
theorem ev_sliceE (P : Prims) {n : Nat} (A : EvAll X C q oa n) {v : Expr} {lo hi : Option Expr} {sp pos : Pos} {s : Shared} (S : St X q oa s.heap) (tk : 1 ≤ s.toks) :
    Ev X (eval (.Subscript v (.Slice lo hi none sp) pos) X.env) ((evE C n q v).bind fun a => (evO C n q lo).bind fun l => (evO C n q hi).bind fun h => (partD l).bind fun l => (partD h).bind fun h => cutD a l h) V s := by
  intro hr
  refine Subscript_ ?_
  refine (A.e s v S tk).use (bind_ne hr) (fun ov d s₁ e1 x1 rv => ?_) (fun _ _ e y => ⟨by rw [e]; rfl, y⟩)
  have hr1 := bind_ne' e1 hr
  rw [e1]
  refine wpAny_Slice ?_
  refine (A.o s₁ lo (S.adv x1.ext) (Nat.le_trans tk x1.tk)).use (bind_ne hr1) (fun lv ld s₂ e2 x2 rl => ?_) (fun _ _ e y => ⟨by show ((evO C n q lo).bind _) = _; rw [e]; rfl, y.back x1.zero⟩)
  have hr2 := bind_ne' e2 hr1
  have x12 := x1.trans x2
  show wpAny _ _ _ _ (Exc X s ((evO C n q lo).bind fun l => (evO C n q hi).bind fun h => (partD l).bind fun l => (partD h).bind fun h => cutD d l h)) _
  rw [e2]
  refine (A.o s₂ hi (S.adv x12.ext) (Nat.le_trans tk x12.tk)).use (bind_ne hr2) (fun hv hd s₃ e3 x3 rh => ?_) (fun _ _ e y => ⟨by show ((evO C n q hi).bind _) = _; rw [e]; rfl, y.back x12.zero⟩)
  have hr3 := bind_ne' e3 hr2
  have x13 := x12.trans x3
  rw [evalPart_none]
  refine wpAny_pure ?_
  show wpAny _ _ _ _ (Exc X s ((evO C n q hi).bind fun h => (partD ld).bind fun l => (partD h).bind fun h => cutD d l h)) _
  rw [e3]
  cases hpl : partD ld with
  | ok l =>
    have hr4 := bind_ne' hpl hr3
    cases hph : partD hd with
    | ok h =>
      have hr5 := bind_ne' hph hr4
      have el : ((R.ok hd).bind fun h => (partD ld).bind fun l => (partD h).bind fun h => cutD d l h) = cutD d l h := by
        show ((partD ld).bind fun l => (partD hd).bind fun h => cutD d l h) = _
        rw [hpl]
        show ((partD hd).bind fun h => cutD d l h) = _
        rw [hph]; rfl
      show wpAny _ _ _ (Post X s ((R.ok hd).bind fun h => (partD ld).bind fun l => (partD h).bind fun h => cutD d l h) V) _ _
      rw [el]
      refine ev_cut P (rv.ext (x2.trans x3).ext) (part_of (rl.ext x3.ext) hpl) (part_of rh hph) hr5 fun v s' x hb => ?_
      obtain ⟨b, hb1, hb2⟩ := hb
      exact ⟨b, hb1, x13.zero.trans x, hb2⟩
    | raise => rw [hph] at hr4; exact absurd hph (by cases hd <;> exact fun e => by cases e)
    | stuck => rw [hph] at hr4; exact absurd rfl hr4
  | raise => exact absurd hpl (by cases ld <;> exact fun e => by cases e)
  | stuck => rw [hpl] at hr3; exact absurd rfl hr3

/-- every expression gives what the evaluator says -/
theorem evAll (P : Prims) (O : X.Ok (k + 1)) (O' : X.Ok k) (K : CfgOk C X k) : ∀ n, EvAll X C q oa n
  | 0 => ⟨fun _ _ _ _ => .stuck, fun _ _ _ _ _ => .stuck, fun _ _ _ _ => .stuck⟩
  | n + 1 => by
    have A := evAll P O O' K n
    refine ⟨fun s e S tk => ?_, fun pos s es S tk => ev_spliced A.e (A.es pos) S tk es, fun s e S tk => ?_⟩
    · cases e with
      | Constant c kd p => exact ev_const
      | Name x p => exact ev_name O' K S
      | BinOp l op r p => exact fun hr => wpAny_BinOp (Ev.two stableV (A.e s _ S tk) (fun s' x => A.e s' _ (S.adv x.ext) (Nat.le_trans tk x.tk)) (fun a b x y s' _ r1 r2 => ev_bin P.add P.mul r1 r2) hr)
      | UnaryOp op x p =>
        cases op with
        | USub => exact fun hr => wpAny_UnaryOp ((A.e s _ S tk).then (fun v d s' _ _ r => ev_neg r) hr)
        | _ => exact .stuck
      | Compare l ops rs p =>
        cases ops with
        | nil => exact .stuck
        | cons op ops =>
          cases ops with
          | cons _ _ => exact .stuck
          | nil =>
            cases rs with
            | nil => exact .stuck
            | cons r rs =>
              cases rs with
              | cons _ _ => exact .stuck
              | nil => exact ev_cmpE O A S tk
      | Call f args kws p =>
        cases kws with
        | cons _ _ => exact .stuck
        | nil =>
          cases args with
          | nil => exact .stuck
          | cons a args =>
            cases f with
            | Name f np =>
              show Ev X _ (if (noStars (a :: args) && calleeOk C f) = true then (evEs C n q (a :: args)).bind fun ds => callD C f ds else .stuck) V s
              split
              · rename_i h
                simp only [Bool.and_eq_true] at h
                exact ev_call P O K S h.1 h.2 (A.es _ s _ S tk)
              · exact .stuck
            | Attribute o name ap =>
              show Ev X _ (if (plainBase o && noStars (a :: args) && ap.endLine == p.line && decide ((a :: args).length < 30)) = true then (evE C n q o).bind (methR C n q name (a :: args)) else .stuck) V s
              split
              · rename_i h
                simp only [Bool.and_eq_true, decide_eq_true_eq] at h
                exact ev_method P O A S tk h.1.1.1 h.1.1.2 h.1.2 h.2
              · exact .stuck
            | _ => exact .stuck
      | Subscript v i p =>
        show Ev X _ (match sliceOf i with | some lh => _ | none => _) V s
        cases hsl : sliceOf i with
        | some lh =>
          obtain ⟨lo, hi⟩ := lh
          obtain ⟨sp, rfl⟩ := slice_of hsl
          exact ev_sliceE P A S tk
        | none => exact fun hr => Subscript_ (Ev.two stableV (A.e s _ S tk) (fun s' x => A.e s' _ (S.adv x.ext) (Nat.le_trans tk x.tk)) (fun a b x y s' _ r1 r2 => ev_idx (fun a b p e => by subst e; cases hsl) r1 r2) hr)
      | Tuple es kd p =>
        show Ev X _ (if es.length ≤ 1000 then (evEs C n q es).bind fun ds => .ok (.tup ds) else .stuck) V s
        split
        · rename_i h
          exact fun hr => Tuple_ ((A.es _ s _ S tk).then (fun vs ds s' e _ r => ev_newTuple r (by rw [evEs_length e]; exact h)) hr)
        · exact .stuck
      | List es p =>
        show Ev X _ (if es.length ≤ 1000 then (evEs C n q es).bind fun ds => .ok (.lst ds) else .stuck) V s
        split
        · rename_i h
          exact fun hr => List_ ((A.es _ s _ S tk).then (fun vs ds s' e _ r => ev_newList r (by rw [evEs_length e]; exact h)) hr)
        · exact .stuck
      | _ => exact .stuck
    · unfold evO
      split
      · rw [evalPart_none]
        exact .prim fun Q E h => wpAny_pure (h _ _ (.refl _) .none)
      · rw [evalPart_some]
        exact A.e s _ S tk
end
end
end Mine
namespace Mine
section
open PySem PySem.Calls PySem.Spec PyProof.Rows PySem.SeqAt

section
variable {X : Cx} {k : Nat} {C : Cfg} {q : PS} {oa : Option Addr}
noncomputable abbrev BB : Heap → Bool → Bool → Prop := fun _ a b => a = b

theorem ev_testChain (O : X.Ok (k + 1)) {n : Nat} {pos : Pos} (hE : ∀ s e, St X q oa s.heap → 1 ≤ s.toks → Ev X (eval e X.env) (evE C n q e) V s) :
    ∀ (ops : List CmpOp) (cs : List Expr) (a : D) (va : Value) (s : Shared), St X q oa s.heap → 1 ≤ s.toks → Rep Plain s.heap va a → Ev X (testChain pos va ops (evalEach cs X.env)) (evChain C n q a ops cs) BB s
  | [op], [r], a, va, s, S, tk, ra => by
    have e : evChain C n q a [op] [r] = (evE C n q r).bind fun b => cmpD op a b := by unfold evChain; rfl
    rw [e]
    intro hr
    refine test_last ((hE s r S tk).use (bind_ne hr) (fun vb b s₁ e1 x1 rb => ?_) (fun _ _ e y => ⟨by rw [e]; rfl, y⟩))
    have hr1 := bind_ne' e1 hr
    rw [e1]
    refine (ev_cmp O (ra.ext x1.ext) rb).use hr1 (fun v t s₂ e2 x2 hv => ?_) (fun _ _ e y => ⟨e, y.back x1.zero⟩)
    rw [hv]
    exact wpAny_truthy_bool ⟨t, e2, (x1.trans x2).zero, rfl⟩
  | op :: op' :: ops, r :: r' :: rs, a, va, s, S, tk, ra => by
    have e : evChain C n q a (op :: op' :: ops) (r :: r' :: rs) = (evE C n q r).bind fun b => (cmpD op a b).bind fun t => if t then evChain C n q b (op' :: ops) (r' :: rs) else .ok false := by
      rw [evChain]
    rw [e]
    intro hr
    refine test_link ((hE s r S tk).use (bind_ne hr) (fun vb b s₁ e1 x1 rb => ?_) (fun _ _ e y => ⟨by rw [e]; rfl, y⟩))
    have hr1 := bind_ne' e1 hr
    rw [e1]
    refine (ev_cmp O (ra.ext x1.ext) rb).use (bind_ne hr1) (fun v t s₂ e2 x2 hv => ?_) (fun _ _ e y => ⟨by show ((cmpD op a b).bind _) = _; rw [e]; rfl, y.back x1.zero⟩)
    have hr2 := bind_ne' e2 hr1
    rw [hv]
    refine wpAny_truthy_bool ?_
    have el : ((R.ok b).bind fun b => (cmpD op a b).bind fun t => if t then evChain C n q b (op' :: ops) (r' :: rs) else .ok false) = if t then evChain C n q b (op' :: ops) (r' :: rs) else .ok false := by
      show ((cmpD op a b).bind fun t => if t then evChain C n q b (op' :: ops) (r' :: rs) else .ok false) = _
      rw [e2]; rfl
    have x12 := x1.trans x2
    cases t with
    | false =>
      rw [if_neg Bool.false_ne_true]
      exact ⟨false, by rw [el]; rfl, x12.zero, rfl⟩
    | true =>
      rw [if_pos rfl] at hr2 ⊢
      rw [el, if_pos rfl]
      exact wpAny_mono (ev_testChain O hE (op' :: ops) (r' :: rs) b vb s₂ (S.adv x12.ext) (Nat.le_trans tk x12.tk) (rb.ext x2.ext) hr2) (fun _ _ z => z.of x12.zero rfl) fun _ _ z => Exc.of x12.zero (fun q => q) z
  | [], _, a, va, s, S, tk, ra => by unfold evChain; exact .stuck
  | [_], [], a, va, s, S, tk, ra => by unfold evChain; exact .stuck
  | _ :: _ :: _, [], a, va, s, S, tk, ra => by unfold evChain; exact .stuck
  | [_], _ :: _ :: _, a, va, s, S, tk, ra => by unfold evChain; exact .stuck
  | _ :: _ :: _, [_], a, va, s, S, tk, ra => by unfold evChain; exact .stuck

theorem ev_boolD {t : Sem Value} {r : R D} {s : Shared} {E : Value → Shared → Prop} {e : Expr} (h : Ev X t r V s) (hr : r.bind boolD ≠ .stuck) (hE : ∀ e s', r.bind boolD = .raise → ERaise X s e s' → E e s') :
    wpAny X.M X.AA t (fun v s₁ => wpAny X.M X.AA (truthy v) (Post X s (r.bind boolD) BB) E s₁) E s := by
  refine h.use (bind_ne hr) (fun v d s₁ e1 x1 rv => ?_) (fun e s' e1 y => hE e s' (by rw [e1]; rfl) y)
  have hr1 := bind_ne' e1 hr
  rw [e1]
  cases rv with
  | bool b => exact wpAny_truthy_bool ⟨b, rfl, x1.zero, rfl⟩
  | _ => exact absurd rfl hr1

theorem ev_andT {n : Nat} {s : Shared} {e : Expr} {r : List Expr} (h1 : Ev X (isTrue e X.env (eval e X.env)) (evT C n q e) BB s) (S : St X q oa s.heap) (tk : 1 ≤ s.toks)
    (ts : ∀ s op es, St X q oa s.heap → 1 ≤ s.toks → Ev X (allTrue op es X.env) (evTs C n q op es) BB s) :
    Ev X (allTrue .And (e :: r) X.env) ((evT C n q e).bind fun b => if b then evTs C n q .And r else .ok false) BB s := by
  intro hr
  refine wpAny_allTrue_And_cons (h1.use (bind_ne hr) (fun b b' s₁ e1 x1 hb => ?_) (fun _ _ e y => ⟨by rw [e]; rfl, y⟩))
  have hr1 := bind_ne' e1 hr
  rw [e1, hb]
  cases b' with
  | false => exact ⟨false, rfl, x1.zero, rfl⟩
  | true =>
    have hr2 : evTs C n q .And r ≠ .stuck := hr1
    exact wpAny_mono (ts s₁ .And r (S.adv x1.ext) (Nat.le_trans tk x1.tk) hr2) (fun _ _ z => z.of x1.zero rfl) fun _ _ z => Exc.of x1.zero (fun q => q) z
theorem ev_orT {n : Nat} {s : Shared} {e : Expr} {r : List Expr} (h1 : Ev X (isTrue e X.env (eval e X.env)) (evT C n q e) BB s) (S : St X q oa s.heap) (tk : 1 ≤ s.toks)
    (ts : ∀ s op es, St X q oa s.heap → 1 ≤ s.toks → Ev X (allTrue op es X.env) (evTs C n q op es) BB s) :
    Ev X (allTrue .Or (e :: r) X.env) ((evT C n q e).bind fun b => if b then .ok true else evTs C n q .Or r) BB s := by
  intro hr
  refine wpAny_allTrue_Or_cons (h1.use (bind_ne hr) (fun b b' s₁ e1 x1 hb => ?_) (fun _ _ e y => ⟨by rw [e]; rfl, y⟩))
  have hr1 := bind_ne' e1 hr
  rw [e1, hb]
  cases b' with
  | true => exact ⟨true, rfl, x1.zero, rfl⟩
  | false =>
    have hr2 : evTs C n q .Or r ≠ .stuck := hr1
    exact wpAny_mono (ts s₁ .Or r (S.adv x1.ext) (Nat.le_trans tk x1.tk) hr2) (fun _ _ z => z.of x1.zero rfl) fun _ _ z => Exc.of x1.zero (fun q => q) z

structure EvT (X : Cx) (C : Cfg) (q : PS) (oa : Option Addr) (n : Nat) : Prop where
  t : ∀ s e, St X q oa s.heap → 1 ≤ s.toks → Ev X (isTrue e X.env (eval e X.env)) (evT C n q e) BB s
  ts : ∀ s op es, St X q oa s.heap → 1 ≤ s.toks → Ev X (allTrue op es X.env) (evTs C n q op es) BB s

theorem evT_all (P : Prims) (O : X.Ok (k + 1)) (O' : X.Ok k) (K : CfgOk C X k) : ∀ n, EvT X C q oa n
  | 0 => ⟨fun _ _ _ _ => .stuck, fun _ _ _ _ _ => .stuck⟩
  | n + 1 => by
    have A := evT_all P O O' K n
    have B := evAll (q := q) (oa := oa) P O O' K n
    refine ⟨fun s e S tk => ?_, fun s op es S tk => ?_⟩
    · cases e with
      | UnaryOp op x p =>
        cases op with
        | Not =>
          intro hr
          have hr : ((evT C n q x).bind fun b => .ok !b) ≠ .stuck := hr
          show wpAny _ _ _ (Post X s ((evT C n q x).bind fun b => .ok !b) BB) (Exc X s ((evT C n q x).bind fun b => .ok !b)) s
          exact wpAny_isTrue_Not ((A.t s _ S tk).use (bind_ne hr) (fun b b' s₁ e1 x1 hb => ⟨!b', by rw [e1]; rfl, x1.zero, by rw [hb]⟩) (fun _ _ e y => ⟨by rw [e]; rfl, y⟩))
        | _ => exact .stuck
      | BoolOp op vs p => exact fun hr => wpAny_isTrue_BoolOp (A.ts s _ _ S tk hr)
      | Compare l ops cs pos =>
        show Ev X _ (if lastMarks ops cs = true then .stuck else (evE C n q l).bind fun a => evChain C n q a ops cs) BB s
        split
        · exact .stuck
        · rename_i hm
          intro hr
          show wpAny X.M X.AA (do testChain pos (← eval l X.env) ops (markedEach ops cs (evalEach cs X.env))) _ _ s
          rw [markedEach_of_false _ _ _ (by simpa using hm)]
          exact wpAny_bind ((B.e s l S tk).then (fun v d s' _ x r => ev_testChain O B.e ops cs d v s' (S.adv x.ext) (Nat.le_trans tk x.tk) r) hr)
      | Name x pos =>
        intro hr
        exact wpAny_isTrue_value (ev_boolD (e := .Name x pos) (ev_name O' K S) hr fun _ _ e y => ⟨e, y⟩)
      | Call f args ks p =>
        intro hr
        exact wpAny_isTrue_value (ev_boolD (e := .Call f args ks p) (B.e s _ S tk) hr fun _ _ e y => ⟨e, y⟩)
      | _ => exact .stuck
    · cases op with
      | And =>
        cases es with
        | nil => exact .prim fun Q E h => wpAny_allTrue_And_nil (h _ _ (.refl _) rfl)
        | cons e r => exact ev_andT (A.t s e S tk) S tk A.ts
      | Or =>
        cases es with
        | nil => exact .prim fun Q E h => wpAny_allTrue_Or_nil (h _ _ (.refl _) rfl)
        | cons e r => exact ev_orT (A.t s e S tk) S tk A.ts
end
end
end Mine
namespace Mine
section
open PySem PySem.Calls PySem.Spec PyProof.Rows PySem.SeqAt

/-! statements -/
noncomputable def Same (s s' : Shared) : Prop := ∃ h' tk, s' = { s with heap := h', toks := tk }
theorem Same.refl (s : Shared) : Same s s := ⟨s.heap, s.toks, rfl⟩
theorem Same.trans {s₁ s₂ s₃ : Shared} (x : Same s₁ s₂) (y : Same s₂ s₃) : Same s₁ s₃ := by
  obtain ⟨h₁, t₁, rfl⟩ := x
  obtain ⟨h₂, t₂, rfl⟩ := y
  exact ⟨h₂, t₂, rfl⟩
theorem Adv0.same {X : Cx} {s s' : Shared} (x : Adv0 X s s') : Same s s' := by
  obtain ⟨h₁, t₁, rfl, _⟩ := x
  exact ⟨h₁, t₁, rfl⟩

structure Mod (X : Cx) (oa oa' : Option Addr) (h h' : Heap) : Prop where
  keep : ∀ b o, h.get? b = some o → b ∉ X.fs → oa ≠ some b → h'.get? b = some o
  there : ∀ b o, h.get? b = some o → ∃ o', h'.get? b = some o'
  own : oa' = oa ∨ ∀ a, oa' = some a → h.get? a = none
theorem Mod.refl {X : Cx} (oa : Option Addr) (h : Heap) : Mod X oa oa h h := ⟨fun _ _ e _ _ => e, fun _ o e => ⟨o, e⟩, .inl rfl⟩
theorem Mod.trans {X : Cx} {o₀ o₁ o₂ : Option Addr} {h₀ h₁ h₂ : Heap} (x : Mod X o₀ o₁ h₀ h₁) (y : Mod X o₁ o₂ h₁ h₂) : Mod X o₀ o₂ h₀ h₂ := by
  refine ⟨fun b o e n m => ?_, fun b o e => ?_, ?_⟩
  · refine y.keep b o (x.keep b o e n m) n fun q => ?_
    rcases x.own with z | z
    · rw [z] at q; exact m q
    · rw [z b q] at e; cases e
  · obtain ⟨o₁, e₁⟩ := x.there b o e
    exact y.there b o₁ e₁
  · rcases y.own with z | z
    · rcases x.own with u | u
      · exact .inl (z.trans u)
      · exact .inr fun a e => u a (z ▸ e)
    · refine .inr fun a e => ?_
      cases q : h₀.get? a with
      | none => rfl
      | some o =>
        obtain ⟨o', e'⟩ := x.there a o q
        rw [z a e] at e'
        cases e'
theorem Ext.mod {X : Cx} {oa : Option Addr} {h h' : Heap} (x : Ext X.fs h h') : Mod X oa oa h h' :=
  ⟨fun b o e n _ => x.keep b o n e, fun b o e => by obtain ⟨sl, hs⟩ := x.slots b o e; exact ⟨_, hs⟩, .inl rfl⟩
theorem Mod.after {X : Cx} {oa oa' : Option Addr} {h h₁ h' : Heap} (x : Ext X.fs h h₁) (y : Mod X oa oa' h₁ h') : Mod X oa oa' h h' := Mod.trans x.mod y

noncomputable def Fin (X : Cx) (h : Heap) : Prop := X.W.base.StaysIn h ∧ Ext (fr X.outer) X.g h
theorem St.fin {X : Cx} {q : PS} {oa : Option Addr} {h : Heap} (S : St X q oa h) : Fin X h := ⟨S.stays, S.ext⟩

noncomputable def SPost (X : Cx) (s : Shared) (oa : Option Addr) (out : Out) (fl : Flow) (s' : Shared) : Prop :=
  match out with
  | .next q' => fl = .next ∧ Same s s' ∧ ∃ oa', St X q' oa' s'.heap ∧ Mod X oa oa' s.heap s'.heap
  | .ret d => ∃ v, fl = .ret v ∧ Same s s' ∧ Rep Plain s'.heap v d ∧ Fin X s'.heap
  | _ => False

/-- an exception raised somewhere behind s in this frame -/
noncomputable def LRaise (X : Cx) (s : Shared) (e : Value) (s' : Shared) : Prop := ∃ q oa s₁, Same s s₁ ∧ St X q oa s₁.heap ∧ ERaise X s₁ e s'
theorem LRaise.back {X : Cx} {s s₁ : Shared} {e : Value} {s' : Shared} (x : Same s s₁) (r : LRaise X s₁ e s') : LRaise X s e s' := by
  obtain ⟨q, oa, s₂, h1, h2⟩ := r
  exact ⟨q, oa, s₂, x.trans h1, h2⟩

noncomputable def Ex (X : Cx) (s : Shared) (oa : Option Addr) (t : Sem Flow) (out : Out) : Prop :=
  out ≠ .stuck → ∀ E : Value → Shared → Prop, PassesOwn X.M X.AA X.env E → (∀ e s', out = .raise → LRaise X s e s' → E e s') → wpAny X.M X.AA t (SPost X s oa out) E s

theorem Ex.stuck {X : Cx} {s : Shared} {oa : Option Addr} {t : Sem Flow} : Ex X s oa t .stuck := fun h => absurd rfl h

theorem SPost.of {X : Cx} {s s₁ : Shared} {oa oa₁ : Option Addr} {out : Out} {fl : Flow} {s' : Shared} (x : Same s s₁) (m : Mod X oa oa₁ s.heap s₁.heap) (h : SPost X s₁ oa₁ out fl s') : SPost X s oa out fl s' := by
  cases out with
  | next q =>
    obtain ⟨h1, h2, oa', h3, h4⟩ := h
    exact ⟨h1, x.trans h2, oa', h3, m.trans h4⟩
  | ret d =>
    obtain ⟨v, h1, h2, h3, h4⟩ := h
    exact ⟨v, h1, x.trans h2, h3, h4⟩
  | raise => exact h
  | stuck => exact h

/-! stores -/
mutual
theorem Rep.sameDict {N : Addr → Prop} {h h' : Heap} {c : Addr} (hc : ∃ o es n, h.get? c = some o ∧ o.data = .dict es n) (hs : ∀ b, b ≠ c → h'.get? b = h.get? b) : ∀ {v : Value} {d : D}, Rep N h v d → Rep N h' v d
  | _, _, .none => .none
  | _, _, .bool b => .bool b
  | _, _, .int i t => .int i t
  | _, _, .str s t => .str s t
  | _, _, .bytes b t => .bytes b t
  | _, _, .typ n => .typ n
  | _, _, .tup (a := a) t r => .tup (by
      obtain ⟨o, ho, hcl, n, hd⟩ := t
      refine ⟨o, (hs a fun e => ?_).trans ho, hcl, n, hd⟩
      obtain ⟨o', es, n', ho', hd'⟩ := hc
      rw [e, ho'] at ho
      cases ho
      rw [hd'] at hd
      cases hd) (RepL.sameDict hc hs r)
  | _, _, .lst (a := a) n t r => .lst n (by
      obtain ⟨o, ho, hcl, n, hd⟩ := t
      refine ⟨o, (hs a fun e => ?_).trans ho, hcl, n, hd⟩
      obtain ⟨o', es, n', ho', hd'⟩ := hc
      rw [e, ho'] at ho
      cases ho
      rw [hd'] at hd
      cases hd) (RepL.sameDict hc hs r)
theorem RepL.sameDict {N : Addr → Prop} {h h' : Heap} {c : Addr} (hc : ∃ o es n, h.get? c = some o ∧ o.data = .dict es n) (hs : ∀ b, b ≠ c → h'.get? b = h.get? b) : ∀ {vs : List Value} {ds : List D}, RepL N h vs ds → RepL N h' vs ds
  | _, _, .nil => .nil
  | _, _, .cons a r => .cons (Rep.sameDict hc hs a) (RepL.sameDict hc hs r)
end

theorem funFrames_but {b h h' : Heap} {L : Addr} (hs : ∀ c, c ≠ L → h'.get? c = h.get? c) : ∀ {l : List Env}, h.FunFrames b l → (L ∉ fr l) → h'.FunFrames b l
  | [], _, _ => trivial
  | env :: l, ⟨hk, ⟨a, o, hf, hb, ho, hd⟩, hr⟩, n => by
    have h1 : fr (env :: l) = a :: fr l := by unfold fr; rw [List.filterMap_cons, hf]
    rw [h1, List.mem_cons, not_or] at n
    exact ⟨hk, ⟨a, o, hf, hb, (hs a (fun e => n.1 e.symm)).trans ho, hd⟩, funFrames_but hs hr n.2⟩

section
variable {X : Cx} {k : Nat} {C : Cfg} {q : PS} {oa : Option Addr}

theorem Cx.Ok.notOuter (O : X.Ok k) : X.L ∉ fr X.outer := fun hm => by
  obtain ⟨_, o, ho, _⟩ := O.outerg.mem hm
  rw [O.newL] at ho
  cases ho
theorem St.baseL {h : Heap} (S : St X q oa h) : X.W.base.get? X.L = none := by
  obtain ⟨_, ⟨L, o, hf, hb, _⟩, _⟩ := S.frames
  cases hf
  exact hb

/-- the frame's names change -/
theorem St.names (O : X.Ok k) {h h' : Heap} (S : St X q oa h) {q' : PS} {oa' : Option Addr} {m' : Str → Option Value} (hs : Heap.SameBut X.L h h') (hn : h'.Ns X.L m')
    (hl : ∀ x d, look q'.rho x = some d → ∃ v, m' x = some v ∧ Rep (Off oa') h v d)
    (ho : match q'.own with | none => True | some (y, ds) => ∃ a vs, oa' = some a ∧ m' y = some (.ref a) ∧ h.PlainList a vs.toArray ∧ RepL (Off oa') h vs ds)
    (hoa : ∀ a, oa' = some a → X.g.get? a = none ∧ X.W.base.get? a = none ∧ a ∉ X.fs ∧ ∃ vs, h.PlainList a vs) : St X q' oa' h' := by
  have hL : ∃ o es n, h.get? X.L = some o ∧ o.data = .dict es n := by
    obtain ⟨m, ⟨o, es, ep, h1, h2, _⟩, _⟩ := S.loc
    exact ⟨o, es, ep, h1, h2⟩
  have plain : ∀ {a : Addr} {vs : Array Value}, a ∉ X.fs → h.PlainList a vs → h'.PlainList a vs := fun na ⟨n, e⟩ => ⟨n, (hs.2 _ (fun q => na (by rw [q, X.fs_eq]; exact List.mem_cons_self))).trans e⟩
  refine ⟨fun b o e => (hs.2 b (fun q => by rw [q, S.baseL] at e; cases e)).trans (S.stays b o e), ?_, ⟨fun b o n e => ?_, fun b o e => ?_⟩, ⟨m', hn, fun x d e => ?_, ?_⟩, fun a e => ?_, S.newL⟩
  · exact .cons (by show X.scope.kind ≠ .module; rw [O.kind]; decide) rfl hn S.baseL (funFrames_but hs.2 (funFrames_tail S.frames) O.notOuter)
  · exact (hs.2 b (fun q => by rw [q, S.newL] at e; cases e)).trans (S.ext.keep b o n e)
  · obtain ⟨sl, e₁⟩ := S.ext.slots b o e
    exact ⟨sl, (hs.2 b (fun q => by rw [q, S.newL] at e; cases e)).trans e₁⟩
  · obtain ⟨v, hv, r⟩ := hl x d e
    exact ⟨v, hv, r.sameDict hL hs.2⟩
  · cases hq : q'.own with
    | none => trivial
    | some p =>
      obtain ⟨y, ds⟩ := p
      rw [hq] at ho
      obtain ⟨a, vs, h1, h2, h3, h4⟩ := ho
      exact ⟨a, vs, h1, h2, plain (hoa a h1).2.2.1 h3, h4.sameDict hL hs.2⟩
  · obtain ⟨h1, h2, h3, vs, h4⟩ := hoa a e
    exact ⟨h1, h2, h3, vs, plain h3 h4⟩

theorem mod_names {h h' : Heap} {oa' : Option Addr} (hs : Heap.SameBut X.L h h') (hthere : ∃ o, h'.get? X.L = some o) (ho : oa' = oa ∨ ∀ a, oa' = some a → h.get? a = none) : Mod X oa oa' h h' := by
  refine ⟨fun b o e n _ => (hs.2 b (fun q => n (by rw [q, X.fs_eq]; exact List.mem_cons_self))).trans e, fun b o e => ?_, ho⟩
  by_cases q : b = X.L
  · rw [q]; exact hthere
  · exact ⟨o, (hs.2 b q).trans e⟩

theorem ex_store {A : Around} (O : X.Ok k) {s : Shared} (S : St X q oa s.heap) {x : Str} {v : Value} {d : D} {q' : PS} (hl : X.scope.names.lookup x = some .local) (rv : Rep Plain s.heap v d) (hq : q.set x d = some q')
    {Q : Unit → Shared → Prop} {E : Value → Shared → Prop} (hQ : ∀ s' oa', Same s s' → St X q' oa' s'.heap → Mod X oa oa' s.heap s'.heap → (∀ b, b ≠ X.L → s'.heap.get? b = s.heap.get? b) → Q () s') :
    wpAny X.M A (storeName X.env x v) Q E s := by
  obtain ⟨m, hn, hlk, ho⟩ := S.loc
  refine wpAny_storeName_local (env := X.env) hl hn (fun h' hn' hs => ?_) (by show (X.scope.kind == .class || (X.scope.kind == .module && X.L != mainGlobals)) = false; rw [O.kind]; rfl)
  have there : ∃ o, h'.get? X.L = some o := by obtain ⟨o, _, _, e, _⟩ := hn'; exact ⟨o, e⟩
  unfold PS.set at hq
  cases hown : q.own with
  | none =>
    rw [hown] at hq
    cases hq
    refine hQ _ none ⟨_, _, rfl⟩ (S.names O hs hn' (fun y e hy => ?_) trivial (fun _ e => nomatch e)) (mod_names hs there (.inr fun _ e => nomatch e)) hs.2
    rw [look_put] at hy
    by_cases hxy : x = y
    · rw [if_pos hxy] at hy
      cases hy
      exact ⟨v, by rw [if_pos hxy.symm], rv.imp fun _ _ _ _ => by simp [Off]⟩
    · rw [if_neg hxy] at hy
      obtain ⟨w, hw, r⟩ := hlk y e hy
      exact ⟨w, by rw [if_neg (fun q => hxy q.symm)]; exact hw, r.imp fun _ _ _ _ => by simp [Off]⟩
  | some p =>
    obtain ⟨z, ds⟩ := p
    rw [hown] at hq
    dsimp only at hq
    by_cases hz : z = x
    · rw [if_pos hz] at hq
      cases hq
      refine hQ _ none ⟨_, _, rfl⟩ (S.names O hs hn' (fun y e hy => ?_) trivial (fun _ e => nomatch e)) (mod_names hs there (.inr fun _ e => nomatch e)) hs.2
      rw [look_put] at hy
      by_cases hxy : x = y
      · rw [if_pos hxy] at hy
        cases hy
        exact ⟨v, by rw [if_pos hxy.symm], rv.imp fun _ _ _ _ => by simp [Off]⟩
      · rw [if_neg hxy] at hy
        obtain ⟨w, hw, r⟩ := hlk y e hy
        exact ⟨w, by rw [if_neg (fun q => hxy q.symm)]; exact hw, r.imp fun _ _ _ _ => by simp [Off]⟩
    · rw [if_neg hz] at hq
      by_cases hd : d.noList = true
      · rw [if_pos hd] at hq
        cases hq
        rw [hown] at ho
        obtain ⟨a, vs, h1, h2, h3, h4⟩ := ho
        refine hQ _ oa ⟨_, _, rfl⟩ (S.names O hs hn' (fun y e hy => ?_) ⟨a, vs, h1, by rw [if_neg hz]; exact h2, h3, h4⟩ S.own) (mod_names hs there (.inl rfl)) hs.2
        rw [look_put] at hy
        by_cases hxy : x = y
        · rw [if_pos hxy] at hy
          cases hy
          exact ⟨v, by rw [if_pos hxy.symm], rv.noList hd⟩
        · rw [if_neg hxy] at hy
          obtain ⟨w, hw, r⟩ := hlk y e hy
          exact ⟨w, by rw [if_neg (fun q => hxy q.symm)]; exact hw, r⟩
      · rw [if_neg hd] at hq
        cases hq

theorem kind_of (K : CfgOk C X k) {x : Str} (h : localName C x = true) : X.scope.names.lookup x = some .local := by
  unfold localName Cfg.kind at h
  rw [K.sc]
  simpa using h

/-- one statement's expression, and what follows it -/
noncomputable def isComp : Expr → Bool
  | .ListComp .. | .SetComp .. | .DictComp .. => true
  | _ => false
theorem evE_notComp {n : Nat} {e : Expr} (h : evE C n q e ≠ .stuck) : isComp e = false := by
  cases e <;> first | rfl | (exfalso; apply h; cases n <;> rfl)
theorem swaps_no {e : Expr} {t : Option Expr} {l : Nat} {env : Env} (h : isComp e = false) : swapsWith e t l env = pure false := by
  cases e <;> first | rfl | (cases h)

theorem ex_assignName (P : Prims) (O : X.Ok (k + 1)) (O' : X.Ok k) (K : CfgOk C X k) {n : Nat} {x : Str} {p pos : Pos} {e : Expr} {s : Shared} (S : St X q oa s.heap) (tk : 1 ≤ s.toks) :
    Ex X s oa (PySem.exec (.Assign [.Name x p] e pos) X.env) (Out.ofR (evE C n q e) fun d => Out.ofS (storeD C q (.Name x p) d)) := by
  intro hr E hp hE
  have hr0 : evE C n q e ≠ .stuck := by intro h; rw [h] at hr; exact hr rfl
  refine wpAny_Assign_Name ?_ (swaps_no (evE_notComp hr0))
  refine ((evAll P O O' K n).e s e S tk).use hr0 (fun v d s₁ e1 x1 rv => ?_) (fun e s' e1 y => hE e s' (by rw [e1]; rfl) ⟨q, oa, s, .refl s, S, y⟩)
  rw [e1] at hr ⊢
  have hr1 : Out.ofS (storeD C q (.Name x p) d) ≠ .stuck := hr
  show wpAny _ _ _ (fun _ => SPost X s oa (Out.ofS (storeD C q (.Name x p) d)) .next) _ _
  unfold storeD at hr1 ⊢
  dsimp only at hr1 ⊢
  split at hr1
  · rename_i hl
    rw [if_pos hl]
    cases hq : q.set x d with
    | none => rw [hq] at hr1; exact absurd rfl hr1
    | some q' =>
      refine ex_store O (S.adv x1.ext) (kind_of K hl) rv hq fun s' oa' h1 h2 h3 _ => ?_
      exact ⟨rfl, x1.zero.same.trans h1, oa', h2, Mod.after x1.ext h3⟩
  · exact absurd rfl hr1

theorem ex_return (P : Prims) (O : X.Ok (k + 1)) (O' : X.Ok k) (K : CfgOk C X k) {n : Nat} {pos : Pos} {e : Expr} {s : Shared} (S : St X q oa s.heap) (tk : 1 ≤ s.toks) :
    Ex X s oa (PySem.exec (.Return (some e) pos) X.env) (Out.ofR (evE C n q e) .ret) := by
  intro hr E hp hE
  have hr0 : evE C n q e ≠ .stuck := by intro h; rw [h] at hr; exact hr rfl
  refine wpAny_Return_some (((evAll P O O' K n).e s e S tk).use hr0 (fun v d s₁ e1 x1 rv => ?_) (fun e s' e1 y => hE e s' (by rw [e1]; rfl) ⟨q, oa, s, .refl s, S, y⟩))
  rw [e1]
  exact ⟨v, rfl, x1.zero.same, rv, (S.adv x1.ext).fin⟩
end
end
end Mine
namespace Mine
section
open PySem PySem.Calls PySem.Spec PyProof.Rows PySem.SeqAt

section
variable {X : Cx} {k : Nat} {C : Cfg} {q : PS} {oa : Option Addr}

theorem St.freshAddr {h : Heap} (S : St X q oa h) : X.g.get? h.objs.size = none ∧ X.W.base.get? h.objs.size = none ∧ h.objs.size ∉ X.fs := by
  refine ⟨?_, ?_, fun hm => ?_⟩
  · cases e : X.g.get? h.objs.size with
    | none => rfl
    | some o =>
      obtain ⟨sl, e'⟩ := S.ext.slots _ o e
      exact absurd (Heap.lt_size e') (Nat.lt_irrefl _)
  · cases e : X.W.base.get? h.objs.size with
    | none => rfl
    | some o => exact absurd (Heap.lt_size (S.stays _ o e)) (Nat.lt_irrefl _)
  · obtain ⟨_, o, e, _⟩ := S.frames.mem hm
    exact absurd (Heap.lt_size e) (Nat.lt_irrefl _)

theorem ex_ownNew (P : Prims) (O : X.Ok (k + 1)) (O' : X.Ok k) (K : CfgOk C X k) {n : Nat} {x : Str} {p lp pos : Pos} {es : List Expr} {s : Shared} (S : St X q oa s.heap) (tk : 1 ≤ s.toks) (hl : localName C x = true) (hown : q.own = none) :
    Ex X s oa (PySem.exec (.Assign [.Name x p] (.List es lp) pos) X.env) (match evEs C n q es with
        | .ok ds => if D.noLists ds ∧ ds.length ≤ 1000 then .next ⟨q.rho.filter (fun p => !(p.1 == x)), some (x, ds)⟩ else .stuck
        | .raise => .raise
        | .stuck => .stuck) := by
  intro hr E hp hE
  have hr0 : evEs C n q es ≠ .stuck := by intro h; rw [h] at hr; exact hr rfl
  refine wpAny_Assign_Name (List_ ?_) rfl
  refine ((evAll P O O' K n).es lp s es S tk).use hr0 (fun vs ds s₁ e1 x1 rv => ?_) (fun e s' e1 y => hE e s' (by rw [e1]) ⟨q, oa, s, .refl s, S, y⟩)
  rw [e1] at hr ⊢
  dsimp only at hr ⊢
  by_cases hc : D.noLists ds = true ∧ ds.length ≤ 1000
  · rw [if_pos hc] at hr ⊢
    have S₁ := S.adv x1.ext
    have hfr := S₁.freshAddr
    refine wpAny_newObj_type ?_ (by show vs.toArray.size ≤ sizeLine; rw [sizeLine_eq, List.size_toArray, rv.length]; (first | lia | omega))
    generalize hH : s₁.heap.push { cls := .type "list", dict := none, data := .seq vs.toArray } = H
    have xp : Ext X.fs s₁.heap H := hH ▸ Ext.push _ _ _
    have hnew : H.get? s₁.heap.objs.size = some { cls := .type "list", dict := none, data := .seq vs.toArray } := hH ▸ Heap.get?_push_size _ rfl
    have S₂ : St X q oa H := S₁.adv xp
    obtain ⟨m, hn, hlk, _⟩ := S₂.loc
    obtain ⟨m1, hn1, hlk1, _⟩ := S₁.loc
    refine wpAny_storeName_local (s := { s₁ with heap := H }) (env := X.env) (kind_of K hl) hn (fun h' hn' hs => ?_) (by show (X.scope.kind == .class || (X.scope.kind == .module && X.L != mainGlobals)) = false; rw [O.kind]; rfl)
    have there : ∃ o, h'.get? X.L = some o := by obtain ⟨o, _, _, e, _⟩ := hn'; exact ⟨o, e⟩
    have hm : ∀ y, m y = m1 y := by
      obtain ⟨o, es', ep, a1, a2, a3, a4⟩ := hn
      obtain ⟨o', es'', ep', b1, b2, b3, b4⟩ := hn1
      intro y
      obtain ⟨sl, e⟩ := xp.slots _ _ b1
      rw [a1] at e
      cases e
      have e2 : Data.dict es' ep = Data.dict es'' ep' := a2.symm.trans b2
      injection e2 with e3 e4
      rw [← a4 y, ← b4 y, e3]
    refine ⟨rfl, x1.zero.same.trans ⟨h', _, rfl⟩, some s₁.heap.objs.size, S₂.names O hs hn' (fun y d hy => ?_) ⟨_, vs, rfl, by rw [if_pos rfl], ⟨0, hnew⟩, (rv.noList hc.1).ext xp⟩ (fun a e => by cases e; exact ⟨hfr.1, hfr.2.1, hfr.2.2, _, 0, hnew⟩), ?_⟩
    · rw [look_filter] at hy
      by_cases hxy : x = y
      · rw [if_pos hxy] at hy; cases hy
      · rw [if_neg hxy] at hy
        obtain ⟨v, hv, r⟩ := hlk1 y d hy
        refine ⟨v, by rw [if_neg (fun q => hxy q.symm), hm y]; exact hv, (r.imp fun a items hi _ => ?_).ext xp⟩
        intro q
        cases q
        obtain ⟨o, ho, _⟩ := hi
        exact absurd (Heap.lt_size ho) (Nat.lt_irrefl _)
    · have z : Mod X oa oa s.heap h' := Mod.after x1.ext (Mod.after xp (mod_names hs there (.inl rfl)))
      refine ⟨z.keep, z.there, .inr fun a e => ?_⟩
      cases e
      cases qq : s.heap.get? s₁.heap.objs.size with
      | none => rfl
      | some o =>
        obtain ⟨sl, e'⟩ := x1.ext.slots _ o qq
        exact absurd (Heap.lt_size e') (Nat.lt_irrefl _)
  · rw [if_neg hc] at hr
    exact absurd rfl hr

/-- the list that the frame owns grows -/
theorem St.grow {h h' : Heap} {a : Addr} {y : Str} {ds : List D} {d : D} {v : Value} {vs : List Value} (S : St X q (some a) h) (hown : q.own = some (y, ds)) (hpl : h.PlainList a vs.toArray) (hrs : RepL (Off (some a)) h vs ds)
    (hs : Heap.SameBut a h h') (hpl' : h'.PlainList a (vs.toArray.push v)) (rv : Rep (Off (some a)) h v d) : St X ⟨q.rho, some (y, ds ++ [d])⟩ (some a) h' := by
  obtain ⟨m, hn, hl, ho⟩ := S.loc
  obtain ⟨o1, o2, o3, _⟩ := S.own a rfl
  have hLa : X.L ≠ a := fun e => o3 (by rw [← e, X.fs_eq]; exact List.mem_cons_self)
  have hlist : ∃ items, h.IsList a items := ⟨_, hpl.isList⟩
  have hN : ∀ b, Off (some a) b → b ≠ a := fun b hb e => hb (by rw [e])
  have hs' : ∀ b o, b ≠ a → h.get? b = some o → h'.get? b = some o := fun b o n e => (hs.2 b n).trans e
  refine ⟨fun b o e => hs' b o (fun q => by rw [q, o2] at e; cases e) (S.stays b o e), funFrames_but hs.2 S.frames o3, ⟨fun b o n e => ?_, fun b o e => ?_⟩, ⟨m, hn.sameBut hs hLa, fun x e hx => ?_, ?_⟩, fun b e => ?_, S.newL⟩
  · exact hs' b o (fun q => by rw [q, o1] at e; cases e) (S.ext.keep b o n e)
  · obtain ⟨sl, e₁⟩ := S.ext.slots b o e
    exact ⟨sl, hs' b _ (fun q => by rw [q, o1] at e; cases e) e₁⟩
  · obtain ⟨w, hw, r⟩ := hl x e hx
    exact ⟨w, hw, r.but hN hlist hs'⟩
  · rw [hown] at ho
    obtain ⟨a', vs', h1, h2, _⟩ := ho
    cases h1
    refine ⟨a, vs ++ [v], rfl, h2, ?_, (hrs.append (.cons rv .nil)).but hN hlist hs'⟩
    simpa using hpl'
  · cases e
    exact ⟨o1, o2, o3, _, hpl'⟩

theorem ex_append (P : Prims) (O : X.Ok (k + 1)) (O' : X.Ok k) (K : CfgOk C X k) {n : Nat} {x y : Str} {np ap cp pos : Pos} {a : Expr} {ds : List D} {s : Shared} (S : St X q oa s.heap) (tk : 1 ≤ s.toks) (hl : localName C x = true)
    (hown : q.own = some (y, ds)) (hy : y = x) (hz : ds.length ≤ 1000000) (hst : notStar a = true) (hln : (ap.endLine == cp.line) = true) (hdb : ¬ x = Str.ofString "__debug__") :
    Ex X s oa (PySem.exec (.Expr (.Call (.Attribute (.Name x np) (Str.ofString "append") ap) [a] [] cp) pos) X.env)
      (Out.ofR (evE C n q a) fun d => if d.noList then .next ⟨q.rho, some (y, ds ++ [d])⟩ else .stuck) := by
  intro hr E hp hE
  have hr0 : evE C n q a ≠ .stuck := by intro h; rw [h] at hr; exact hr rfl
  have hstars : noStars [a] = true := by simp [noStars, hst]
  have hfew : ((backTo cp (starEach [a] X.env)).all (fun x => !x.1) && (backToKw cp (keywordEach [] X.env)).all (fun x => x.1.isSome)
      && decide ([a].length + ([] : List Keyword).length + (if ([] : List Keyword).isEmpty then 0 else 1) < 30)) = true := by
    rw [star_cons hst]; rfl
  refine wpAny_Expr ?_ (by show (X.scope.kind == .module && _) = false; rw [O.kind]; rfl) rfl
  refine wpAny_Call_method_lateS rfl hfew hln ?_
  obtain ⟨m, hn, hlk, ho⟩ := id S.loc
  rw [hown] at ho
  obtain ⟨ad, vs, e1, e2, e3, e4⟩ := ho
  subst e1
  refine wpAny_Name (wpAny_loadName_local (env := X.env) O.kind (kind_of K hl) hn (hy ▸ e2) ?_) (by simpa using hdb)
  obtain ⟨nn, e5⟩ := id e3
  refine ⟨"list", "list.append", F.plainAttrs_list, F.slot_list_append, F.type_list_append, ⟨_, e5, rfl⟩, fun b hb => by cases hb; exact ⟨_, e5, rfl⟩, ?_⟩
  refine callWith_method1 ?_ (star_cons hst) rfl
  refine args_cons ?_ (star_cons hst)
  refine ((evAll P O O' K n).e s a S tk).use hr0 (fun v d s₁ g1 x1 rv => args_nil ?_) (fun e s' g1 yy => hE e s' (by rw [g1]; rfl) ⟨q, _, s, .refl s, S, yy⟩)
  rw [g1] at hr ⊢
  have hr1 : (if d.noList then Out.next ⟨q.rho, some (y, ds ++ [d])⟩ else .stuck) ≠ .stuck := hr
  by_cases hd : d.noList = true
  · have S₁ := S.adv x1.ext
    have o3 := (S.own ad rfl).2.2.1
    have e3' : s₁.heap.PlainList ad vs.toArray := by obtain ⟨n', e⟩ := e3; exact ⟨n', x1.ext.keep ad _ o3 e⟩
    refine wpAny_list_append_plain e3' (fun h' hpl hs => ?_) (by rw [sizeLine_eq, List.size_toArray, e4.length]; (first | lia | omega))
    show SPost X s (some ad) (if d.noList then Out.next ⟨q.rho, some (y, ds ++ [d])⟩ else .stuck) .next _
    rw [if_pos hd]
    refine ⟨rfl, x1.zero.same.trans ⟨h', s₁.toks, rfl⟩, some ad, S₁.grow hown e3' (e4.ext x1.ext) hs hpl (rv.noList hd), ?_⟩
    refine Mod.after x1.ext ⟨fun b o e _ m => (hs.2 b (fun q => m (by rw [q]))).trans e, fun b o e => ?_, .inl rfl⟩
    by_cases q : b = ad
    · obtain ⟨n', e'⟩ := hpl
      exact ⟨_, q ▸ e'⟩
    · exact ⟨o, (hs.2 b q).trans e⟩
  · rw [if_neg hd] at hr1
    exact absurd rfl hr1
end
end
end Mine
namespace Mine
section
open PySem PySem.Calls PySem.Spec PyProof.Rows PySem.SeqAt

section
variable {X : Cx} {k : Nat} {C : Cfg} {q : PS} {oa : Option Addr}

/-! targets -/
theorem ex_storeDs {A : Around} (O : X.Ok k) (K : CfgOk C X k) {E : Value → Shared → Prop} : ∀ (ts : List Expr) (ds : List D) (vs : List Value) (q q' : PS) (oa : Option Addr) (s : Shared) {Q : Unit → Shared → Prop}, St X q oa s.heap → RepL Plain s.heap vs ds → storeDs C q ts ds = some q' →
    (∀ s' oa', Same s s' → St X q' oa' s'.heap → Mod X oa oa' s.heap s'.heap → (∀ b, b ≠ X.L → s'.heap.get? b = s.heap.get? b) → Q () s') → wpAny X.M A (assignInOrder ((assignEach ts X.env).map (·.2)) vs) Q E s
  | [], [], vs, q, q', oa, s, Q, S, rv, h, hQ => by
    cases rv
    cases h
    exact wpAny_pure (hQ s oa (.refl s) S (.refl _ _) fun _ _ => rfl)
  | t :: ts, d :: ds, vs, q, q', oa, s, Q, S, rv, h, hQ => by
    cases rv with
    | @cons v vs _ _ r1 r2 =>
    unfold storeDs at h
    cases h1 : storeD C q t d with
    | none => rw [h1] at h; simp at h
    | some q₁ =>
      rw [h1] at h
      have h2 : storeDs C q₁ ts ds = some q' := h
      unfold storeD at h1
      cases t with
      | Name x p =>
        dsimp only at h1
        split at h1
        · rename_i hl
          show wpAny X.M A (do holding vs (assign (.Name x p) X.env v); assignInOrder ((assignEach ts X.env).map (·.2)) vs) Q E s
          refine wpAny_bind (wpAny_holding (assign_Name (ex_store O S (kind_of K hl) r1 h1 fun s₁ oa₁ a1 a2 a3 a4 => ?_)))
          have hd : ∃ o es n, s.heap.get? X.L = some o ∧ o.data = .dict es n := S.dicts O X.L (show X.L ∈ X.L :: fr X.outer from List.mem_cons_self)
          refine ex_storeDs O K ts ds vs q₁ q' oa₁ s₁ a2 (r2.sameDict hd a4) h2 fun s' oa' b1 b2 b3 b4 => ?_
          exact hQ s' oa' (a1.trans b1) b2 (a3.trans b3) fun b n => (b4 b n).trans (a4 b n)
        · simp at h1
      | _ => simp at h1
  | [], _ :: _, vs, q, q', oa, s, Q, S, rv, h, hQ => by cases h
  | _ :: _, [], vs, q, q', oa, s, Q, S, rv, h, hQ => by cases h

theorem storeDs_len (X : Cx) : ∀ {ts : List Expr} {ds : List D} {q q' : PS}, storeDs C q ts ds = some q' → (assignEach ts X.env).length = ds.length ∧ (assignEach ts X.env).findIdx? (·.1) = none
  | [], [], _, _, _ => ⟨rfl, rfl⟩
  | t :: ts, d :: ds, q, q', h => by
    unfold storeDs at h
    cases h1 : storeD C q t d with
    | none => rw [h1] at h; simp at h
    | some q₁ =>
      rw [h1] at h
      obtain ⟨h2, h3⟩ := storeDs_len X (ts := ts) (ds := ds) (q := q₁) (q' := q') h
      unfold storeD at h1
      cases t with
      | Name x p =>
        have e : assignEach (.Name x p :: ts) X.env = (false, assign (.Name x p) X.env) :: assignEach ts X.env := rfl
        rw [e]
        refine ⟨by rw [List.length_cons, List.length_cons, h2], ?_⟩
        rw [List.findIdx?_cons]
        simp [h3]
      | _ => simp at h1
  | [], _ :: _, _, _, h => by cases h
  | _ :: _, [], _, _, h => by cases h

theorem ex_assign (O : X.Ok k) (K : CfgOk C X k) {t : Expr} {d : D} {v : Value} {q' : PS} {s : Shared} {E : Value → Shared → Prop} {Q : Unit → Shared → Prop} (S : St X q oa s.heap) (rv : Rep Plain s.heap v d) (h : assignD C q t d = some q')
    (hQ : ∀ s' oa', Same s s' → St X q' oa' s'.heap → Mod X oa oa' s.heap s'.heap → (∀ b o, b ≠ X.L → s.heap.get? b = some o → s'.heap.get? b = some o) → Q () s') : wpAny X.M X.AA (assign t X.env v) Q E s := by
  cases t with
  | Name x p =>
    have h : (if localName C x = true then q.set x d else none) = some q' := h
    split at h
    · rename_i hl
      exact assign_Name (ex_store O S (kind_of K hl) rv h fun s' oa' a b c dd => hQ s' oa' a b c fun bb o n e => (dd bb n).trans e)
    · cases h
  | Tuple ts k0 p0 =>
    cases rv with
    | @tup a vs ds' ht hr =>
      obtain ⟨h1, h2⟩ := storeDs_len X h
      refine assign_Tuple_tuple O.handled ht (by rw [h1, List.size_toArray, hr.length]) h2 fun h' hx => ?_
      have x0 : ∀ b o, s.heap.get? b = some o → h'.get? b = some o := fun b o e => hx b o (Nat.ne_of_lt (Heap.lt_size e)) e
      have x1 : Ext X.fs s.heap h' := .of_keeps x0
      refine ex_storeDs O K _ _ vs q q' oa { s with heap := h' } (S.adv x1) (hr.ext x1) h fun s' oa' a1 a2 a3 a4 => ?_
      exact hQ s' oa' (Same.trans ⟨h', s.toks, rfl⟩ a1) a2 (Mod.after x1 a3) fun b o n e => (a4 b n).trans (x0 b o e)
    | _ => cases h
  | _ => cases h

theorem ex_assignTuple (P : Prims) (O : X.Ok (k + 1)) (O' : X.Ok k) (K : CfgOk C X k) {n : Nat} {ts : List Expr} {j : Nat} {p pos : Pos} {e : Expr} {s : Shared} (S : St X q oa s.heap) (tk : 1 ≤ s.toks) (hn : notTup e = true) :
    Ex X s oa (PySem.exec (.Assign [.Tuple ts j p] e pos) X.env) (Out.ofR (evE C n q e) fun d => Out.ofS (assignD C q (.Tuple ts j p) d)) := by
  intro hr E hp hE
  have hr0 : evE C n q e ≠ .stuck := by intro h; rw [h] at hr; exact hr rfl
  refine Assign_Tuple ?_ (by unfold swapsWithSole; exact swaps_no (evE_notComp hr0)) (by cases e <;> first | rfl | (cases hn))
  refine ((evAll P O O' K n).e s e S tk).use hr0 (fun v d s₁ e1 x1 rv => ?_) (fun e s' e1 y => hE e s' (by rw [e1]; rfl) ⟨q, oa, s, .refl s, S, y⟩)
  rw [e1] at hr ⊢
  have hr1 : Out.ofS (assignD C q (.Tuple ts j p) d) ≠ .stuck := hr
  show wpAny _ _ _ (fun _ => SPost X s oa (Out.ofS (assignD C q (.Tuple ts j p) d)) .next) _ _
  cases hq : assignD C q (.Tuple ts j p) d with
  | none => rw [hq] at hr1; exact absurd rfl hr1
  | some q' =>
    refine ex_assign (k := k) O' K (S.adv x1.ext) rv hq fun s' oa' a1 a2 a3 _ => ?_
    exact ⟨rfl, x1.zero.same.trans a1, oa', a2, Mod.after x1.ext a3⟩

/-! raise -/
theorem ex_raise (P : Prims) (O : X.Ok (k + 1)) (O' : X.Ok k) (K : CfgOk C X k) {n : Nat} {x : Str} {np cp pos : Pos} {a : Expr} {s : Shared} (S : St X q oa s.heap) (tk : 1 ≤ s.toks) (hv : isVE C x = true) (hst : notStar a = true) :
    Ex X s oa (PySem.exec (.Raise (some (.Call (.Name x np) [a] [] cp)) none pos) X.env) (rsO (evE C n q a)) := by
  intro hr E hp hE
  have hr0 : evE C n q a ≠ .stuck := by intro h; rw [h] at hr; exact hr rfl
  simp only [isVE, Bool.and_eq_true, beq_iff_eq] at hv
  obtain ⟨⟨hx, hk⟩, hB⟩ := hv
  subst hx
  have hk' : X.scope.names.lookup (Str.ofString "ValueError") = some .globalImplicit := by rw [K.sc]; exact hk
  refine wpAny_Raise_call (cls := "ValueError") F.excCall_ValueError F.excRaise_ValueError O.handled (by rw [star_cons hst]; rfl) ?_
  refine wp_topName O.w S.stays O.kind hk' (.inr ⟨K.B _ hB, by decide +kernel, by decide +kernel⟩) (by decide +kernel) ⟨rfl, ?_⟩
  obtain ⟨tr, hb⟩ : ∃ t, backTo cp (starEach [a] X.env) = [(false, t)] := by rw [star_cons hst]; exact ⟨_, rfl⟩
  rw [hb]
  refine evalArgs_plain ?_
  rw [← hb]
  refine args_cons ?_ (star_cons hst)
  refine ((evAll P O O' K n).e s a S tk).use hr0 (fun v d s₁ e1 x1 rv => args_nil ?_) (fun e s' e1 y => hE e s' (by rw [e1]; rfl) ⟨q, oa, s, .refl s, S, y⟩)
  rw [e1] at hr hE
  have hs : ∃ t, d = .str t := by
    cases d <;> first | exact ⟨_, rfl⟩ | exact absurd rfl hr
  obtain ⟨t, rfl⟩ := hs
  refine ⟨rfl, by rw [sizeLine_eq]; simp, fun h' e hm => hE _ _ rfl ⟨q, oa, s, .refl s, S, e, h', s₁.toks, rfl, ?_, ?_⟩⟩
  · obtain ⟨h1, t1, rfl, _⟩ := x1.zero
    rfl
  · have x2 : Ext X.fs s₁.heap h' := .of_keeps hm.keeps
    have S' : St X q oa h' := (S.adv x1.ext).adv x2
    obtain ⟨tt, he, _, _⟩ := hm.there
    refine Raised.back x1.ext ⟨x2, hide_none' hm.new, funFrames_rebase S'.frames fun a m => hide_none m, .inl ⟨_, _, .ref tt, he, rfl, rfl, rfl, rfl⟩⟩
end
end
end Mine
namespace Mine
section
open PySem PySem.Calls PySem.Spec PyProof.Rows PySem.SeqAt

section
variable {X : Cx} {k : Nat} {C : Cfg} {q : PS} {oa : Option Addr}

/-- an exception in flight is taken note of in this frame -/
theorem raised_noted (O : X.Ok k) {s : Shared} {g₀ : Heap} {e : Addr} (R : Raised X g₀ e s.heap) {Q : Unit → Shared → Prop} {E : Value → Shared → Prop}
    (hQ : ∀ h' a0, Heap.HeldW (hide g₀ X.fs) (X.env :: X.outer) e (.type "ValueError") a0 X.L h' → Ext X.fs g₀ h' → Q () { s with heap := h' }) : wpAny X.M X.AA (noteFrame (.ref e) X.env) Q E s := by
  have hfr : X.AA.frames = some (X.env :: X.outer) := Around.frames_deeper O.frames
  have hst : (hide g₀ X.fs).StaysIn s.heap := fun b o h => by
    obtain ⟨h1, h2⟩ := of_hide _ h
    exact R.ext.keep b o h2 h1
  have fin : ∀ h', (hide g₀ X.fs).StaysIn h' → (∀ b o, s.heap.get? b = some o → (∀ vs, o.data ≠ .fields vs) → ∃ sl, h'.get? b = some { o with slots := sl }) → Ext X.fs g₀ h' := fun h' h1 h2 => by
    refine ⟨fun b o n h => h1 b o (hide_get _ h n), fun b o h => ?_⟩
    by_cases hb : b ∈ X.fs
    · obtain ⟨sl, h3⟩ := R.ext.slots b o h
      have hnf : ∀ vs, o.data ≠ .fields vs := by
        obtain ⟨_, o', h4, h5⟩ := R.frames.mem hb
        rw [h3] at h4
        cases h4
        exact h5
      obtain ⟨sl', h6⟩ := h2 b _ h3 hnf
      exact ⟨sl', h6⟩
    · exact ⟨o.slots, h1 b o (hide_get _ h hb)⟩
  rcases R.exc with ⟨oe, vs, a0, h1, h2, h3, h4, h5⟩ | ⟨a0, ht⟩
  · unfold noteFrame
    simp only [show X.env.frame = some X.L from rfl]
    refine wpAny_bind (wpAny_field h1 h3 h5 ?_)
    rw [if_neg (by decide)]
    refine wpAny_entryW (base := hide g₀ X.fs) hfr R.frames rfl h1 hst R.new h3 (Array.getElem?_eq_some_iff.mp h5).1 h4 fun h' hN => ?_
    obtain ⟨k1, k2, k3, k4⟩ := hN
    rw [h2] at k3
    exact hQ h' a0 ⟨k1, R.new, k2, k3⟩ (fin h' k1 k4)
  · refine wpAny_noteFrame_onW hfr R.frames rfl ht hst R.new fun h' hN => ?_
    obtain ⟨k1, k2, k3, k4⟩ := hN
    exact hQ h' a0 ⟨k1, R.new, k2, k3⟩ (fin h' k1 k4)

theorem ve_facts : isSubtype (.type "ValueError") (.type "BaseException") = pure true ∧ isSubtype (.type ((Manifest.find? "ValueError").elim "type" fun x => x.metatype)) (.type "tuple") = pure false ∧ isSubtype (.type "ValueError") (.type "ValueError") = pure true :=
  ⟨by rw [isSubtype_type]; kernel_rfl, by rw [show ((Manifest.find? "ValueError").elim "type" fun x => x.metatype) = "type" from by decide +kernel, isSubtype_type]; kernel_rfl, by rw [isSubtype_type]; kernel_rfl⟩

theorem ev_constA {A : Around} {c : Const} {j : Nat} {p : Pos} {d : D} {s : Shared} {Q : Value → Shared → Prop} {E : Value → Shared → Prop} (h : constD c = .ok d) (hQ : ∀ v s', Adv0 X s s' → Rep Plain s'.heap v d → Q v s') : wpAny X.M A (eval (.Constant c j p) X.env) Q E s := by
  cases c with
  | none => cases h; exact wpAny_Constant_none (hQ _ _ (.refl _) .none)
  | bool b => cases h; exact wpAny_Constant_bool (hQ _ _ (.refl _) (.bool b))
  | int i => cases h; exact wpAny_Constant_int (hQ _ _ (.toks _ _) (.int i _))
  | str x => cases h; exact wpAny_Constant_str (hQ _ _ (.toks _ _) (.str x _))
  | bytes l => cases h; exact PySem.W.Constant_bytes (hQ _ _ (.toks _ _) (.bytes l _))
  | _ => cases h

theorem ex_try (P : Prims) (O : X.Ok (k + 1)) (O' : X.Ok k) (K : CfgOk C X k) {n : Nat} {x y v : Str} {p ap q' aq vp hp' pos cpos : Pos} {e : Expr} {c : Const} {j : Nat} {s : Shared} (S : St X q oa s.heap) (tk : 1 ≤ s.toks) (hv : isVE C v = true) :
    Ex X s oa (PySem.exec (.Try [.Assign [.Name x p] e ap] [.ExceptHandler (some (.Name v vp)) none [.Assign [.Name y q'] (.Constant c j cpos) aq] hp'] [] [] pos) X.env) (match evE C n q e with
        | .ok d => Out.ofS (storeD C q (.Name x p) d)
        | .raise => Out.ofR (constD c) fun d => Out.ofS (storeD C q (.Name y q') d)
        | .stuck => .stuck) := by
  intro hr E hpass hE
  have hr0 : evE C n q e ≠ .stuck := by intro h; rw [h] at hr; exact hr rfl
  simp only [isVE, Bool.and_eq_true, beq_iff_eq] at hv
  obtain ⟨⟨hx, hk⟩, hB⟩ := hv
  subst hx
  have hk' : X.scope.names.lookup (Str.ofString "ValueError") = some .globalImplicit := by rw [K.sc]; exact hk
  refine wpAny_Try_except (wpAny_execs_cons (wpAny_Assign_Name ?_ (swaps_no (evE_notComp hr0))))
  refine ((evAll P O O' K n).e s e S tk).use hr0 (fun v d s₁ e1 x1 rv => ?_) (fun ev s' e1 yy => ?_)
  · rw [e1] at hr ⊢
    have hr1 : Out.ofS (storeD C q (.Name x p) d) ≠ .stuck := hr
    dsimp only
    unfold storeD at hr1 ⊢
    dsimp only at hr1 ⊢
    split at hr1
    · rename_i hl
      rw [if_pos hl]
      cases hq : q.set x d with
      | none => rw [hq] at hr1; exact absurd rfl hr1
      | some q1 =>
        refine ex_store O (S.adv x1.ext) (kind_of K hl) rv hq fun s' oa' h1 h2 h3 _ => ?_
        refine wpAny_execs_nil (wpAny_execs_nil ?_)
        exact ⟨rfl, x1.zero.same.trans h1, oa', h2, Mod.after x1.ext h3⟩
    · exact absurd rfl hr1
  · rw [e1] at hr ⊢
    have hr1 : (Out.ofR (constD c) fun d => Out.ofS (storeD C q (.Name y q') d)) ≠ .stuck := hr
    obtain ⟨ea, h', tk', rfl, rfl, R⟩ := yy
    refine raised_noted O (s := { s with heap := h', toks := tk' }) R fun h₂ a0 hH x2 => ?_
    refine wpAny_landsW (s := { s with heap := h₂, toks := tk' }) hH fun h₃ hF hU => ?_
    have x3 : Ext X.fs s.heap h₃ := by
      refine ⟨fun b o n h => hF.1 b o (hide_get _ h n), fun b o h => ?_⟩
      by_cases hb : b ∈ X.fs
      · obtain ⟨sl, h4⟩ := x2.slots b o h
        have hnf : ∀ vs, o.data ≠ .fields vs := by
          obtain ⟨_, o', h5, h6⟩ := hH.2.2.1.mem hb
          rw [h4] at h5
          cases h5
          exact h6
        obtain ⟨sl', h7⟩ := hU b _ h4 hnf
        exact ⟨sl', h7⟩
      · exact ⟨o.slots, hF.1 b o (hide_get _ h hb)⟩
    obtain ⟨f1, f2, f3⟩ := ve_facts
    refine wpAny_handleBy_builtin (s := { s with heap := h₃, toks := tk' }) (X := "ValueError") (T := "ValueError") (b := true) f1 f2 f3 ?_
    have S₃ : St X q oa h₃ := S.adv x3
    refine wp_topNameA (s := { s with heap := h₃, toks := tk' }) O.w S₃.stays O.kind hk' (.inr ⟨K.B _ hB, by decide +kernel, by decide +kernel⟩) (by decide +kernel) ⟨rfl, hF.there, ?_⟩
    rw [if_pos rfl]
    -- the clause's own suite, the exception marked
    have landed : ∀ h₄, Heap.FlyingW (hide s.heap X.fs) (X.env :: X.outer) ea (.type "ValueError") a0 h₄ → Ext X.fs s.heap h₄ → ∀ (A : Around) (E' : Value → Shared → Prop),
        wpAny X.M A (PySem.execs [.Assign [.Name y q'] (.Constant c j cpos) aq] X.env) (SPost X s oa (Out.ofR (constD c) fun d => Out.ofS (storeD C q (.Name y q') d))) E' { s with heap := h₄, toks := tk' } := by
      intro h₄ _ x4 A E'
      refine wpAny_execs_cons (wpAny_Assign_Name ?_ rfl)
      cases hc : constD c with
      | ok d =>
        rw [hc] at hr1
        refine ev_constA hc fun v s₅ x5 rv => ?_
        have hr2 : Out.ofS (storeD C q (.Name y q') d) ≠ .stuck := hr1
        dsimp only [Out.ofR]
        unfold storeD at hr2 ⊢
        dsimp only at hr2 ⊢
        split at hr2
        · rename_i hl
          rw [if_pos hl]
          have S₅ : St X q oa s₅.heap := (S.adv x4).adv x5.ext
          cases hq : q.set y d with
          | none => rw [hq] at hr2; exact absurd rfl hr2
          | some q1 =>
            refine ex_store O S₅ (kind_of K hl) rv hq fun s' oa' h1 h2 h3 _ => ?_
            refine wpAny_execs_nil ?_
            exact ⟨rfl, (Same.trans ⟨h₄, tk', rfl⟩ x5.same).trans h1, oa', h2, Mod.after (x4.trans x5.ext) h3⟩
        · exact absurd rfl hr2
      | raise => cases c <;> cases hc
      | stuck => rw [hc] at hr1; exact absurd rfl hr1
    obtain ⟨g1, g2, g3, g4⟩ := hF
    refine wpAny_setFlight_noneW (s := { s with heap := h₃, toks := tk' }) g1 g3 g4.at fun h₄ m1 m2 m3 m4 => ?_
    have x4 : Ext X.fs s.heap h₄ := by
      refine ⟨fun b o n h => m1 b o (hide_get _ h n), fun b o h => ?_⟩
      by_cases hb : b ∈ X.fs
      · obtain ⟨sl, h4⟩ := x3.slots b o h
        have hnf : ∀ vs, o.data ≠ .fields vs := by
          obtain ⟨_, o', h5, h6⟩ := g3.mem hb
          rw [h4] at h5
          cases h5
          exact h6
        exact ⟨sl, m4 b _ h4 hnf⟩
      · exact ⟨o.slots, m1 b o (hide_get _ h hb)⟩
    exact landed h₄ ⟨m1, g2, m2, m3⟩ x4 _ _
end
end
end Mine
namespace Mine
section
open PySem PySem.Calls PySem.Spec PyProof.Rows PySem.SeqAt

mutual
theorem Rep.seqs {N : Addr → Prop} {h h' : Heap} (hk : ∀ b o, h.get? b = some o → (∃ xs n, o.data = .seq xs n) → (o.cls = .type "list" → N b) → h'.get? b = some o) : ∀ {v : Value} {d : D}, Rep N h v d → Rep N h' v d
  | _, _, .none => .none
  | _, _, .bool b => .bool b
  | _, _, .int i t => .int i t
  | _, _, .str s t => .str s t
  | _, _, .bytes b t => .bytes b t
  | _, _, .typ n => .typ n
  | _, _, .tup (a := a) t r => .tup (by
      obtain ⟨o, ho, hcl, n, hd⟩ := t
      exact ⟨o, hk a o ho ⟨_, n, hd⟩ (fun e => by rw [hcl] at e; simp at e), hcl, n, hd⟩) (RepL.seqs hk r)
  | _, _, .lst (a := a) n t r => .lst n (by
      obtain ⟨o, ho, hcl, n', hd⟩ := t
      exact ⟨o, hk a o ho ⟨_, n', hd⟩ (fun _ => n), hcl, n', hd⟩) (RepL.seqs hk r)
theorem RepL.seqs {N : Addr → Prop} {h h' : Heap} (hk : ∀ b o, h.get? b = some o → (∃ xs n, o.data = .seq xs n) → (o.cls = .type "list" → N b) → h'.get? b = some o) : ∀ {vs : List Value} {ds : List D}, RepL N h vs ds → RepL N h' vs ds
  | _, _, .nil => .nil
  | _, _, .cons a r => .cons (Rep.seqs hk a) (RepL.seqs hk r)
end

section
variable {X : Cx} {k : Nat} {C : Cfg} {q : PS} {oa : Option Addr}

/-- an iterator of this frame's moves on -/
theorem St.iter {h h' : Heap} {I : Addr} (S : St X q oa h) (hI : ∃ o vs, h.get? I = some o ∧ o.data = .fields vs) (hn : X.g.get? I = none ∧ X.W.base.get? I = none ∧ I ∉ X.fs) (hk : ∀ b o, b ≠ I → h.get? b = some o → h'.get? b = some o) : St X q oa h' := by
  obtain ⟨m, hns, hl, ho⟩ := S.loc
  have hseq : ∀ b o, h.get? b = some o → (∃ xs n, o.data = .seq xs n) → h'.get? b = some o := fun b o e ⟨xs, n, hd⟩ => hk b o (fun q => by
    obtain ⟨o', vs, h1, h2⟩ := hI
    rw [q, h1] at e
    cases e
    rw [h2] at hd
    cases hd) e
  have hLI : X.L ≠ I := fun e => hn.2.2 (by rw [← e, X.fs_eq]; exact List.mem_cons_self)
  have hff : ∀ {l : List Env}, h.FunFrames X.W.base l → I ∉ fr l → h'.FunFrames X.W.base l := by
    intro l
    induction l with
    | nil => intro _ _; trivial
    | cons env l ih =>
      rintro ⟨hk', ⟨a, o, hf, hb, ho', hd⟩, hr⟩ n
      have h1 : fr (env :: l) = a :: fr l := by unfold fr; rw [List.filterMap_cons, hf]
      rw [h1, List.mem_cons, not_or] at n
      exact ⟨hk', ⟨a, o, hf, hb, hk a o (fun e => n.1 e.symm) ho', hd⟩, ih hr n.2⟩
  refine ⟨fun b o e => hk b o (fun q => by rw [q, hn.2.1] at e; cases e) (S.stays b o e), hff S.frames hn.2.2, ⟨fun b o n e => ?_, fun b o e => ?_⟩, ⟨m, ?_, fun y d e => ?_, ?_⟩, fun a e => ?_, S.newL⟩
  · exact hk b o (fun q => by rw [q, hn.1] at e; cases e) (S.ext.keep b o n e)
  · obtain ⟨sl, e₁⟩ := S.ext.slots b o e
    exact ⟨sl, hk b _ (fun q => by rw [q, hn.1] at e; cases e) e₁⟩
  · obtain ⟨o, es, ep, a1, r⟩ := hns
    exact ⟨o, es, ep, hk _ o hLI a1, r⟩
  · obtain ⟨v, hv, r⟩ := hl y d e
    exact ⟨v, hv, r.seqs fun b o e1 e2 _ => hseq b o e1 e2⟩
  · cases hq : q.own with
    | none => trivial
    | some p =>
      obtain ⟨y, ds⟩ := p
      rw [hq] at ho
      obtain ⟨a, vs, e1, e2, ⟨n, e3⟩, e4⟩ := ho
      exact ⟨a, vs, e1, e2, ⟨n, hseq a _ e3 ⟨_, _, rfl⟩⟩, e4.seqs fun b o e1 e2 _ => hseq b o e1 e2⟩
  · obtain ⟨o1, o2, o3, vs, n, o4⟩ := S.own a e
    exact ⟨o1, o2, o3, vs, n, hseq a _ o4 ⟨_, _, rfl⟩⟩

/-! while -/
theorem ex_while {n : Nat} {t : Expr} {b : List Stmt} {pos : Pos} (hT : ∀ q oa s, St X q oa s.heap → 1 ≤ s.toks → Ev X (isTrue t X.env (eval t X.env)) (evT C n q t) BB s)
    (hB : ∀ q oa s, St X q oa s.heap → 1 ≤ s.toks → Ex X s oa (PySem.execs b X.env) (execs C n q b)) {j : Nat} {s : Shared} (S : St X q oa s.heap) (tk : 1 ≤ s.toks) :
    Ex X s oa (PySem.exec (.While t b [] pos) X.env) (whileP (fun q => evT C n q t) (fun q => execs C n q b) j q) := by
  intro hr E hp hE
  generalize ho : whileP (fun q => evT C n q t) (fun q => execs C n q b) j q = out at hr hE
  refine wpAny_While ?_
  refine codeAny_whileLoop (fun i s' => ∃ q' oa', whileP (fun q => evT C n q t) (fun q => execs C n q b) i q' = out ∧ St X q' oa' s'.heap ∧ 1 ≤ s'.toks ∧ Same s s' ∧ Mod X oa oa' s.heap s'.heap) (fun i s' hI => ?_) j ⟨q, oa, ho, S, tk, .refl s, .refl _ _⟩
  obtain ⟨q', oa', h1, S', tk', sm, md⟩ := hI
  cases i with
  | zero => exfalso; apply hr; rw [← h1]; rfl
  | succ i =>
    have h1' : (Out.ofB (evT C n q' t) fun c => if c then (match execs C n q' b with | .next s => whileP (fun q => evT C n q t) (fun q => execs C n q b) i s | o => o) else .next q') = out := h1
    have hrt : evT C n q' t ≠ .stuck := by intro e; rw [e] at h1'; exact hr h1'.symm
    refine (hT q' oa' s' S' tk').use hrt (fun c c' s₁ e1 x1 hc => ?_) (fun e s₂ e1 y => hp e s₂ (hE e s₂ (by rw [← h1', e1]; rfl) ⟨q', oa', s', sm, S', y⟩))
    subst hc
    have S₁ := S'.adv x1.ext
    have tk₁ : 1 ≤ s₁.toks := Nat.le_trans tk' x1.tk
    rw [e1] at h1'
    cases c with
    | false =>
      rw [if_neg Bool.false_ne_true]
      have h2 : Out.next q' = out := h1'
      refine wpAny_execs_nil ?_
      rw [← h2]
      exact ⟨rfl, sm.trans x1.zero.same, oa', S₁, md.trans x1.ext.mod⟩
    | true =>
      rw [if_pos rfl]
      have h2 : (match execs C n q' b with | .next s => whileP (fun q => evT C n q t) (fun q => execs C n q b) i s | o => o) = out := h1'
      have hrb : execs C n q' b ≠ .stuck := by intro e; rw [e] at h2; exact hr h2.symm
      have hb := wpAny_toks_of tk₁ (hB q' oa' s₁ S₁ tk₁ hrb E hp (fun e s₂ e1 y => hE e s₂ (by rw [← h2, e1]) (y.back (sm.trans x1.zero.same))))
      refine wpAny_mono hb (fun f s₃ z => ?_) fun e s₃ z => hp e s₃ z.2
      obtain ⟨tk₃, z⟩ := z
      cases hx : execs C n q' b with
      | next q₃ =>
        rw [hx] at z h2
        obtain ⟨rfl, z2, oa₃, z3, z4⟩ := z
        exact ⟨i, Nat.lt_succ_self _, q₃, oa₃, h2, z3, tk₃, (sm.trans x1.zero.same).trans z2, (md.trans x1.ext.mod).trans z4⟩
      | ret d =>
        rw [hx] at z h2
        obtain ⟨v, rfl, z2, z3, z4⟩ := z
        show SPost X s oa out (.ret v) s₃
        rw [← h2]
        exact ⟨v, rfl, (sm.trans x1.zero.same).trans z2, z3, z4⟩
      | raise => rw [hx] at z; exact z.elim
      | stuck => exact absurd hx hrb

/-! for -/
structure LMod (X : Cx) (I : Addr) (oa oa' : Option Addr) (h h' : Heap) : Prop where
  keep : ∀ b o, h.get? b = some o → b ∉ X.fs → oa ≠ some b → b ≠ I → h'.get? b = some o
  there : ∀ b o, h.get? b = some o → ∃ o', h'.get? b = some o'
  own : oa' = oa ∨ ∀ a, oa' = some a → h.get? a = none
theorem LMod.trans {X : Cx} {I : Addr} {o₀ o₁ o₂ : Option Addr} {h₀ h₁ h₂ : Heap} (x : LMod X I o₀ o₁ h₀ h₁) (y : LMod X I o₁ o₂ h₁ h₂) : LMod X I o₀ o₂ h₀ h₂ := by
  refine ⟨fun b o e n m i => ?_, fun b o e => ?_, ?_⟩
  · refine y.keep b o (x.keep b o e n m i) n (fun q => ?_) i
    rcases x.own with z | z
    · rw [z] at q; exact m q
    · rw [z b q] at e; cases e
  · obtain ⟨o₁, e₁⟩ := x.there b o e
    exact y.there b o₁ e₁
  · rcases y.own with z | z
    · rcases x.own with u | u
      · exact .inl (z.trans u)
      · exact .inr fun a e => u a (z ▸ e)
    · refine .inr fun a e => ?_
      cases q : h₀.get? a with
      | none => rfl
      | some o =>
        obtain ⟨o', e'⟩ := x.there a o q
        rw [z a e] at e'
        cases e'
theorem Mod.lmod {X : Cx} {I : Addr} {oa oa' : Option Addr} {h h' : Heap} (x : Mod X oa oa' h h') : LMod X I oa oa' h h' := ⟨fun b o e n m _ => x.keep b o e n m, x.there, x.own⟩

/-- a loop over what an iterator gives, the iterator made in this statement -/
theorem code_for {I : Addr} {fp : List Addr} {m : Nat} {Pv : Nat → Value → Prop} {Ws : Nat → Heap → Prop} (O : X.Ok k) (K : CfgOk C X k) (W : Walks X.W.p X.W.w X.AA I fp [I] m Pv Ws) {t : Expr} {b : List Stmt} {fb : PS → Out}
    (hB : ∀ q oa s, St X q oa s.heap → 1 ≤ s.toks → Ex X s oa (PySem.execs b X.env) (fb q))
    (hgo : ∀ i v (s : Shared) (Q : Unit → Shared → Prop) (E : Value → Shared → Prop), Ws i s.heap → Q () s → wpAny X.M X.AA (letOwnedTupleGo t (.ref I) v) Q E s)
    (hfld : ∀ i h, Ws i h → ∃ o vs, h.get? I = some o ∧ o.data = .fields vs) {s s₀ : Shared} (x₀ : Adv X s s₀) (hnew : s.heap.get? I = none) (hI : X.g.get? I = none ∧ X.W.base.get? I = none ∧ I ∉ X.fs)
    (hsafe : ∀ b ∈ fp, b ≠ I → b ∉ X.fs ∧ oa ≠ some b ∧ ∃ o, s₀.heap.get? b = some o) {ds : List D} (hlen : ds.length = m)
    (hrep : ∀ i v h', i < m → Pv i v → (∀ b o, s₀.heap.get? b = some o → b ∉ X.fs → oa ≠ some b → b ≠ I → h'.get? b = some o) → ∃ d, ds[i]? = some d ∧ Rep Plain h' v d)
    {out : Out} (hout : forP C t fb ds q = out) (hne : out ≠ .stuck) {E : Value → Shared → Prop} (hp : PassesOwn X.M X.AA X.env E) (hE : ∀ e s', out = .raise → LRaise X s e s' → E e s') (S₀ : St X q oa s₀.heap) (tk : 1 ≤ s₀.toks) (hW : Ws 0 s₀.heap) :
    codeAny X.M X.AA (.forLoop t (.ref I) b [] X.env) (fun r s' => match r with | .ok f => SPost X s oa out f s' | .error e => cameBackBy X.M X.AA X.env E e s') s₀ := by
  have hsame := x₀.zero.same
  -- from the loop's start to the statement's
  have back : ∀ {oa' : Option Addr} {h' : Heap}, LMod X I oa oa' s₀.heap h' → Mod X oa oa' s.heap h' := fun l => by
    refine ⟨fun b o e n mm => l.keep b o (x₀.ext.keep b o n e) n mm (fun q => by rw [q, hnew] at e; cases e), fun b o e => ?_, ?_⟩
    · obtain ⟨sl, e'⟩ := x₀.ext.slots b o e
      exact l.there b _ e'
    · rcases l.own with z | z
      · exact .inl z
      · refine .inr fun a e => ?_
        cases qq : s.heap.get? a with
        | none => rfl
        | some o =>
          obtain ⟨sl, e'⟩ := x₀.ext.slots a o qq
          rw [z a e] at e'
          cases e'
  refine codeAny_forLoop_any (fun j s' => ∃ i q' oa', j = m - i ∧ i ≤ m ∧ Ws i s'.heap ∧ St X q' oa' s'.heap ∧ forP C t fb (ds.drop i) q' = out ∧ 1 ≤ s'.toks ∧ Same s₀ s' ∧ LMod X I oa oa' s₀.heap s'.heap) (fun j s' hJ => ?_) m
    ⟨0, q, oa, rfl, Nat.zero_le _, hW, S₀, by simpa using hout, tk, .refl _, ⟨fun _ _ e _ _ _ => e, fun _ o e => ⟨o, e⟩, .inl rfl⟩⟩
  obtain ⟨i, q', oa', rfl, hi, hWs, S', hf, tk', sm, lm⟩ := hJ
  by_cases hlt : i < m
  · -- a turn
    refine wpAny_with_toks (n := s'.toks) (Nat.le_refl _) ?_
    refine W.item i s' _ _ hlt hWs fun v h₁ tk₁ hPv hWs₁ hk₁ htk₁ => ?_
    have hk₁' : ∀ b o, b ≠ I → s'.heap.get? b = some o → h₁.get? b = some o := fun b o n e => hk₁ b o (by simpa using n) e
    have S₁ : St X q' oa' h₁ := S'.iter (hfld i _ hWs) hI hk₁'
    have lm₁ : LMod X I oa oa' s₀.heap h₁ := lm.trans ⟨fun b o e _ _ n => hk₁' b o n e, fun b o e => by
      by_cases qI : b = I
      · obtain ⟨o', vs, e', _⟩ := hfld (i + 1) _ hWs₁
        exact ⟨o', qI ▸ e'⟩
      · exact ⟨o, hk₁' b o qI e⟩, .inl rfl⟩
    refine hgo (i + 1) v { s' with heap := h₁, toks := tk₁ } _ _ hWs₁ ?_
    obtain ⟨d, hd, rv⟩ := hrep i v h₁ hlt hPv fun b o e n mm nI => lm₁.keep b o e n mm nI
    have hdrop : ds.drop i = d :: ds.drop (i + 1) := by
      obtain ⟨hl, e⟩ := List.getElem?_eq_some_iff.mp hd
      rw [List.drop_eq_getElem_cons hl, e]
    rw [hdrop] at hf
    have hf' : (match assignD C q' t d with | none => Out.stuck | some s => match fb s with | .next s => forP C t fb (ds.drop (i + 1)) s | o => o) = out := hf
    cases ha : assignD C q' t d with
    | none => rw [ha] at hf'; exact absurd hf'.symm hne
    | some q₂ =>
      rw [ha] at hf'
      have hf2 : (match fb q₂ with | .next s => forP C t fb (ds.drop (i + 1)) s | o => o) = out := hf'
      have hrb : fb q₂ ≠ .stuck := by intro e; rw [e] at hf2; exact hne hf2.symm
      refine wpAny_with_toks (s := { s' with heap := h₁, toks := tk₁ }) (n := 1) (Nat.le_trans tk' htk₁) ?_
      refine ex_assign O K (s := { s' with heap := h₁, toks := tk₁ }) S₁ rv ha fun s₂ oa₂ a1 S₂ a3 a4 tk₂ => ?_
      have lm₂ : LMod X I oa oa₂ s₀.heap s₂.heap := lm₁.trans a3.lmod
      have sm₂ : Same s₀ s₂ := (sm.trans ⟨h₁, tk₁, rfl⟩).trans a1
      have hb := wpAny_toks_of tk₂ (hB q₂ oa₂ s₂ S₂ tk₂ hrb E hp (fun e s₃ e1 y => hE e s₃ (by rw [← hf2, e1]) (y.back (hsame.trans sm₂))))
      refine wpAny_mono hb (fun f s₃ z => ?_) fun e s₃ z => hp e s₃ z.2
      obtain ⟨tk₃, z⟩ := z
      cases hx : fb q₂ with
      | next q₃ =>
        rw [hx] at z hf2
        obtain ⟨rfl, z2, oa₃, z3, z4⟩ := z
        refine ⟨m - (i + 1), by (first | lia | omega), i + 1, q₃, oa₃, rfl, hlt, ?_, z3, hf2, tk₃, sm₂.trans z2, lm₂.trans z4.lmod⟩
        have ownNe : ∀ b ∈ fp, oa₂ ≠ some b := fun b hb e => by
          have hex : ∃ o, s₀.heap.get? b = some o := by
            by_cases qI : b = I
            · obtain ⟨o, vs, e', _⟩ := hfld 0 _ hW
              exact ⟨o, qI ▸ e'⟩
            · exact (hsafe b hb qI).2.2
          obtain ⟨o, ho⟩ := hex
          rcases lm₂.own with z | z
          · rw [z] at e
            by_cases qI : b = I
            · obtain ⟨_, _, _, vs, n', e2⟩ := S₀.own b e
              obtain ⟨o', vs', e', hd'⟩ := hfld 0 _ hW
              rw [qI] at e2
              rw [e'] at e2
              cases e2
              cases hd'
            · exact (hsafe b hb qI).2.1 e
          · rw [z b e] at ho; cases ho
        refine W.frame (i + 1) h₁ s₃.heap hWs₁ fun b hb o e => ?_
        have hbf : b ∉ X.fs := by
          by_cases qI : b = I
          · rw [qI]; exact hI.2.2
          · exact (hsafe b hb qI).1
        refine z4.keep b o (a4 b o (fun q => hbf (by rw [q, X.fs_eq]; exact List.mem_cons_self)) e) hbf (ownNe b hb)
      | ret d =>
        rw [hx] at z hf2
        obtain ⟨v, rfl, z2, z3, z4⟩ := z
        show SPost X s oa out (.ret v) s₃
        rw [← hf2]
        exact ⟨v, rfl, (hsame.trans sm₂).trans z2, z3, z4⟩
      | raise => rw [hx] at z; exact z.elim
      | stuck => exact absurd hx hrb
  · -- the end
    have him : i = m := by (first | lia | omega)
    subst him
    refine W.done s' _ _ hWs fun h₁ tk₁ hk₁ => ?_
    have hk₁' : ∀ b o, b ≠ I → s'.heap.get? b = some o → h₁.get? b = some o := fun b o n e => hk₁ b o (by simpa using n) e
    have S₁ : St X q' oa' h₁ := S'.iter (hfld _ _ hWs) hI hk₁'
    rw [List.drop_of_length_le (by (first | lia | omega))] at hf
    have hf' : Out.next q' = out := hf
    refine wpAny_execs_nil ?_
    rw [← hf']
    refine ⟨rfl, hsame.trans (sm.trans ⟨h₁, tk₁, rfl⟩), oa', S₁, ?_⟩
    have bk := back lm
    refine ⟨fun b o e n mm => hk₁' b o (fun q => by rw [q, hnew] at e; cases e) (bk.keep b o e n mm), fun b o e => ?_, bk.own⟩
    obtain ⟨o', e'⟩ := bk.there b o e
    exact ⟨o', hk₁' b o' (fun q => by rw [q, hnew] at e; cases e) e'⟩
end
end
end Mine
namespace Mine
section
open PySem PySem.Calls PySem.Spec PyProof.Rows PySem.SeqAt

section
variable {X : Cx} {k : Nat} {C : Cfg} {q : PS} {oa : Option Addr}

theorem go_other {t : Expr} {I : Addr} {v : Value} {s : Shared} {Q : Unit → Shared → Prop} {E : Value → Shared → Prop} {T : String} {vs : Array Value} (h : ∃ o, s.heap.get? I = some o ∧ o.cls = .type T ∧ o.data = .fields vs)
    (hT : ["enumerate", "zip", "dict_itemiterator", "dict_reverseitemiterator", "odict_iterator", "itertools.zip_longest", "itertools.pairwise"].contains T = false) (hQ : Q () s) : wpAny X.M X.AA (letOwnedTupleGo t (.ref I) v) Q E s := by
  obtain ⟨o, ho, hc, hd⟩ := h
  have key : wpAny X.M X.AA (do
      let (.ref r, .ref a) := ((.ref I : Value), v) | return
      let o ← load r
      match o.cls, o.data with
      | .type n, .fields vs =>
        if ["enumerate", "zip", "dict_itemiterator", "dict_reverseitemiterator", "odict_iterator", "itertools.zip_longest", "itertools.pairwise"].contains n && vs[0]? == some (rawInt a) then
          rule "for.unpacks-the-owned-tuple"
          updateField r 0 .none
      | _, _ => pure ()) Q E s := by
    cases v <;> first
      | exact wpAny_pure hQ
      | (refine wpAny_bind (wpAny_load ho ?_)
         rw [hc, hd]
         dsimp only
         rw [hT, Bool.false_and]
         exact wpAny_pure hQ)
  cases t <;> first
    | exact wpAny_pure hQ
    | exact key

theorem seq_off {h : Heap} (O : X.Ok k) (S : St X q oa h) {b : Addr} {o : Obj} (e : h.get? b = some o) (hs : ∃ xs n, o.data = .seq xs n) : b ∉ X.fs := fun hm => by
  obtain ⟨o', es, n, h1, h2⟩ := S.dicts O b hm
  rw [e] at h1
  cases h1
  obtain ⟨xs, n', h3⟩ := hs
  rw [h3] at h2
  cases h2
theorem seq_keep {h h' : Heap} (O : X.Ok k) (S : St X q oa h) {b : Addr} {o : Obj} (e : h.get? b = some o) (hs : ∃ xs n, o.data = .seq xs n) (hN : o.cls = .type "list" → Off oa b)
    (hk : ∀ b o, h.get? b = some o → b ∉ X.fs → oa ≠ some b → h'.get? b = some o) : h'.get? b = some o := by
  refine hk b o e (seq_off O S e hs) fun q => ?_
  obtain ⟨_, _, _, vs, n, e2⟩ := S.own b q
  rw [e] at e2
  cases e2
  exact hN rfl q

theorem folded_no {iter : Expr} {env : Env} (h : ∀ a b c, iter ≠ .Set a b c) (x : Value) : foldedSetIterable iter env x = pure x := by
  cases iter <;> first | rfl | exact absurd rfl (h _ _ _)

/-- over a list of the frame's names -/
theorem ex_forList (O : X.Ok k) (K : CfgOk C X k) {t : Expr} {b : List Stmt} {fb : PS → Out} {x : Str} {np pos : Pos} {ds : List D} (hB : ∀ q oa s, St X q oa s.heap → 1 ≤ s.toks → Ex X s oa (PySem.execs b X.env) (fb q))
    {s : Shared} (S : St X q oa s.heap) (tk : 1 ≤ s.toks) (hl : localName C x = true) (hdb : x ≠ Str.ofString "__debug__") (hx : look q.rho x = some (.lst ds)) :
    Ex X s oa (PySem.exec (.For t (.Name x np) b [] pos) X.env) (forP C t fb ds q) := by
  intro hr E hp hE
  obtain ⟨m, hn, hlk, ho⟩ := id S.loc
  obtain ⟨v, hv, rv⟩ := hlk x _ hx
  refine wpAny_For (wpAny_Name (wpAny_loadName_local (env := X.env) O.kind (kind_of K hl) hn hv ?_) (by simpa using hdb))
  cases rv with
  | @lst ax vs _ hN hL hR =>
  refine wpAny_pyIter_list hL ?_
  have hfr := S.freshAddr
  have x0 : Ext X.fs s.heap (s.heap.push { cls := .type "list_iterator", data := .fields #[.ref ax, .int 0 0] }) := Ext.push _ _ _
  have hax : ∃ o, s.heap.get? ax = some o ∧ (∃ xs n, o.data = .seq xs n) := by obtain ⟨o, h1, _, n, h2⟩ := hL; exact ⟨o, h1, _, n, h2⟩
  have hne : ax ≠ s.heap.objs.size := by obtain ⟨o, h1, _⟩ := hax; exact Nat.ne_of_lt (Heap.lt_size h1)
  refine code_for (m := vs.toArray.size) (fp := [s.heap.objs.size, ax]) O K (Walks.list (A := X.AA) (show X.AA.handled = none from O.handled) _ ax hne vs.toArray) hB (fun i v s Q E hw hQ => go_other hw.1 (by decide) hQ) (fun i h hw => ?_) (s := s) ⟨⟨_, _, rfl, x0⟩, Nat.le_refl _⟩
    (Heap.get?_none_of_le (Nat.le_refl _)) hfr (fun b hb hbI => ?_) (ds := ds) (by rw [List.size_toArray, hR.length]) (fun i v h' _ hP hk => ?_) rfl hr hp hE (S.adv x0) tk ⟨⟨_, Heap.get?_push_size _ rfl, rfl, rfl⟩, hL.push _⟩
  · obtain ⟨o, h1, _, h2⟩ := hw.1
    exact ⟨o, _, h1, h2⟩
  · have hb' : b = ax := by simpa [hbI] using hb
    subst hb'
    obtain ⟨o, h1, h2⟩ := hax
    exact ⟨seq_off O S h1 h2, hN, o, Heap.get?_push_of_some _ h1⟩
  · have hR' : RepL (Off oa) h' vs ds := hR.seqs fun b o e hs hNb => seq_keep O S e hs hNb fun b o e n mm => hk b o (Heap.get?_push_of_some _ e) n mm (Nat.ne_of_lt (Heap.lt_size e))
    have hP' : vs[i]? = some v := by simpa using hP
    have hi : i < ds.length := by rw [← hR.length]; exact (List.getElem?_eq_some_iff.mp hP').1
    obtain ⟨w, hw, r⟩ := hR'.get (List.getElem?_eq_getElem hi)
    rw [hP'] at hw
    cases hw
    exact ⟨_, List.getElem?_eq_getElem hi, r.plain⟩

/-- over a tuple -/
theorem ex_forTup (O : X.Ok k) (K : CfgOk C X k) {t it : Expr} {b : List Stmt} {fb : PS → Out} {pos : Pos} {ds : List D} {r : R D} (hB : ∀ q oa s, St X q oa s.heap → 1 ≤ s.toks → Ex X s oa (PySem.execs b X.env) (fb q))
    {s : Shared} (S : St X q oa s.heap) (tk : 1 ≤ s.toks) (hit : Ev X (eval it X.env) r V s) (hr0 : r = .ok (.tup ds)) (hnl : D.noLists ds = true) (hset : ∀ a b c, it ≠ .Set a b c) :
    Ex X s oa (PySem.exec (.For t it b [] pos) X.env) (forP C t fb ds q) := by
  intro hr E hp hE
  subst hr0
  refine wpAny_For (hit.use (by simp) (fun v d s₁ e1 x1 rv => ?_) (fun _ _ e _ => by cases e)) (folded_no hset)
  cases e1
  cases rv with
  | @tup ax vs _ hL hR =>
  refine iter_tuple hL ?_
  have S₁ := S.adv x1.ext
  have hfr := S₁.freshAddr
  have x0 : Ext X.fs s₁.heap (s₁.heap.push { cls := .type "tuple_iterator", data := .fields #[.ref ax, .int 0 0] }) := Ext.push _ _ _
  have hax : ∃ o, s₁.heap.get? ax = some o ∧ o.cls = .type "tuple" ∧ (∃ xs n, o.data = .seq xs n) := by obtain ⟨o, h1, hc, n, h2⟩ := hL; exact ⟨o, h1, hc, _, n, h2⟩
  have hne : ax ≠ s₁.heap.objs.size := by obtain ⟨o, h1, _⟩ := hax; exact Nat.ne_of_lt (Heap.lt_size h1)
  have hR₀ : RepL (Off oa) s₁.heap vs ds := hR.noList hnl
  have hoff : oa ≠ some ax := fun q => by
    obtain ⟨o, h1, hc, _⟩ := hax
    obtain ⟨_, _, _, vs', n, e2⟩ := S₁.own ax q
    rw [h1] at e2
    cases e2
    simp at hc
  have hnone : s.heap.get? s₁.heap.objs.size = none := by
    cases qq : s.heap.get? s₁.heap.objs.size with
    | none => rfl
    | some o =>
      obtain ⟨sl, e'⟩ := x1.ext.slots _ o qq
      exact absurd (Heap.lt_size e') (Nat.lt_irrefl _)
  refine code_for (m := vs.toArray.size) (fp := [s₁.heap.objs.size, ax]) O K (Walks.tuple (A := X.AA) (show X.AA.handled = none from O.handled) _ ax hne vs.toArray) hB (fun i v s Q E hw hQ => go_other hw.1 (by decide) hQ) (fun i h hw => ?_) (s := s) (x1.trans ⟨⟨_, _, rfl, x0⟩, Nat.le_refl _⟩)
    hnone hfr (fun b hb hbI => ?_) (ds := ds) (by rw [List.size_toArray, hR.length]) (fun i v h' _ hP hk => ?_) rfl hr hp hE (S₁.adv x0) (Nat.le_trans tk x1.tk) ⟨⟨_, Heap.get?_push_size _ rfl, rfl, rfl⟩, hL.push _⟩
  · obtain ⟨o, h1, _, h2⟩ := hw.1
    exact ⟨o, _, h1, h2⟩
  · have hb' : b = ax := by simpa [hbI] using hb
    subst hb'
    obtain ⟨o, h1, _, h2⟩ := hax
    exact ⟨seq_off O S₁ h1 h2, hoff, o, Heap.get?_push_of_some _ h1⟩
  · have hR' : RepL (Off oa) h' vs ds := hR₀.seqs fun b o e hs hNb => seq_keep O S₁ e hs hNb fun b o e n mm => hk b o (Heap.get?_push_of_some _ e) n mm (Nat.ne_of_lt (Heap.lt_size e))
    have hP' : vs[i]? = some v := by simpa using hP
    have hi : i < ds.length := by rw [← hR.length]; exact (List.getElem?_eq_some_iff.mp hP').1
    obtain ⟨w, hw, r⟩ := hR'.get (List.getElem?_eq_getElem hi)
    rw [hP'] at hw
    cases hw
    exact ⟨_, List.getElem?_eq_getElem hi, r.plain⟩
end
end
end Mine
namespace Mine
section
open PySem PySem.Calls PySem.Spec PyProof.Rows PySem.SeqAt

section
variable {X : Cx} {k : Nat} {C : Cfg} {q : PS} {oa : Option Addr}

theorem ex_forRaise {t it : Expr} {b : List Stmt} {pos : Pos} {s : Shared} (S : St X q oa s.heap) (hit : Ev X (eval it X.env) .raise V s) (hset : ∀ a b c, it ≠ .Set a b c) :
    Ex X s oa (PySem.exec (.For t it b [] pos) X.env) .raise := by
  intro hr E hp hE
  exact wpAny_For (hit.use (by simp) (fun _ _ _ e => by cases e) (fun e s' _ y => hE e s' rfl ⟨q, oa, s, .refl _, S, y⟩)) (folded_no hset)

theorem none_of_ext {fs : List Addr} {h h' : Heap} (x : Ext fs h h') : h.get? h'.objs.size = none := by
  cases qq : h.get? h'.objs.size with
  | none => rfl
  | some o =>
    obtain ⟨sl, e'⟩ := x.slots _ o qq
    exact absurd (Heap.lt_size e') (Nat.lt_irrefl _)

/-- over a text's signs -/
theorem ex_forStr (O : X.Ok k) (K : CfgOk C X k) {t it : Expr} {b : List Stmt} {fb : PS → Out} {pos : Pos} {x : Str} {r : R D} (hB : ∀ q oa s, St X q oa s.heap → 1 ≤ s.toks → Ex X s oa (PySem.execs b X.env) (fb q))
    {s : Shared} (S : St X q oa s.heap) (tk : 1 ≤ s.toks) (hit : Ev X (eval it X.env) r V s) (hr0 : r = .ok (.str x)) (ha : x.cps.all (· < 128) = true) (hset : ∀ a b c, it ≠ .Set a b c) :
    Ex X s oa (PySem.exec (.For t it b [] pos) X.env) (forP C t fb (textSigns x) q) := by
  intro hr E hp hE
  subst hr0
  refine wpAny_For (hit.use (by simp) (fun v d s₁ e1 x1 rv => ?_) (fun _ _ e _ => by cases e)) (folded_no hset)
  cases e1
  cases rv with
  | @str _ tx =>
  refine wpAny_pyIter_ascii ha ?_
  have S₁ := S.adv x1.ext
  have hfr := S₁.freshAddr
  have x0 : Ext X.fs s₁.heap (s₁.heap.push { cls := .type "str_ascii_iterator", data := .fields #[.str x tx, .int 0 0] }) := Ext.push _ _ _
  refine code_for (m := x.cps.size) (fp := [s₁.heap.objs.size]) O K (Walks.strAscii (A := X.AA) (show X.AA.handled = none from O.handled) _ x tx) hB (fun i v s Q E hw hQ => go_other hw (by decide) hQ) (fun i h hw => ?_) (s := s) (x1.trans ⟨⟨_, _, rfl, x0⟩, Nat.le_refl _⟩)
    (none_of_ext x1.ext) hfr (fun b hb hbI => absurd (List.mem_singleton.mp hb) hbI) (ds := textSigns x) (by simp [textSigns]) (fun i v h' hi hP hk => ?_) rfl hr hp hE (S₁.adv x0) (Nat.le_trans tk x1.tk) ⟨_, Heap.get?_push_size _ rfl, rfl, rfl⟩
  · obtain ⟨o, h1, _, h2⟩ := hw
    exact ⟨o, _, h1, h2⟩
  · obtain ⟨c, u, h1, rfl⟩ := hP
    refine ⟨.str ⟨#[c]⟩, ?_, .str _ _⟩
    unfold textSigns
    rw [List.getElem?_map, Array.getElem?_toList, h1]
    rfl

/-- over range(n) -/
theorem ex_forRange (O : X.Ok k) (K : CfgOk C X k) {t a : Expr} {b : List Stmt} {fb : PS → Out} {np cp pos : Pos} {n : Int} {r : R (List D)} (hB : ∀ q oa s, St X q oa s.heap → 1 ≤ s.toks → Ex X s oa (PySem.execs b X.env) (fb q))
    {s : Shared} (S : St X q oa s.heap) (tk : 1 ≤ s.toks) (hit : Ev X (spliced (backTo cp (starEach [a] X.env))) r VL s) (hst : notStar a = true) (hr0 : r = .ok [.int n]) (hn : -1000 ≤ n ∧ n ≤ 1000)
    (hk : X.scope.names.lookup (Str.ofString "range") = some .globalImplicit) (hB0 : X.W.mg (Str.ofString "range") = none) :
    Ex X s oa (PySem.exec (.For t (.Call (.Name (Str.ofString "range") np) [a] [] cp) b [] pos) X.env) (forP C t fb (rangeD n) q) := by
  intro hr E hp hE
  subst hr0
  refine wpAny_For (Call_ (wp_topName (v := .type "range") O.w S.stays O.kind hk (.inr ⟨hB0, by decide +kernel, by decide +kernel⟩) (by decide +kernel) ?_)) (folded_no (by intro _ _ _ h; cases h))
  refine callWith_type1 (hit.use (by simp) (fun vs ds s₁ e1 x1 rv => ?_) (fun _ _ e _ => by cases e)) (star_cons hst) (stars_plain rfl)
  cases e1
  cases rv with
  | cons r1 r2 =>
  cases r2 with
  | nil =>
  cases r1 with
  | int _ tn =>
  refine call_range_1 ?_
  refine wpAny_pyIter_range (IsRange.new ..) (small_one (by decide) (by decide) (by (first | lia | omega)) (by (first | lia | omega))) ?_
  have hsz : Builtin.Range.rangeSize 0 n 1 = (n.toNat : Int) := by rw [rangeSize_one]; split <;> (first | lia | omega)
  have S₁ := S.adv x1.ext
  have x0 : Ext X.fs s₁.heap (s₁.heap.push { cls := .type "range", data := .fields #[.int 0 s₁.toks, .int n tn, .int 1 (s₁.toks + 1)] }) := Ext.push _ _ _
  have S₂ := S₁.adv x0
  have hfr := S₂.freshAddr
  have x2 := x1.trans (s₃ := { s₁ with heap := _, toks := s₁.toks + 1 + 1 }) ⟨⟨_, _, rfl, x0⟩, by show s₁.toks ≤ s₁.toks + 1 + 1; (first | lia | omega)⟩
  have x3 : Ext X.fs _ _ := Ext.push X.fs (s₁.heap.push { cls := .type "range", data := .fields #[.int 0 s₁.toks, .int n tn, .int 1 (s₁.toks + 1)] }) { cls := .type "range_iterator", data := .fields #[rawInt 0, rawInt (Builtin.Range.rangeSize 0 n 1), rawInt 1] }
  refine code_for (m := n.toNat) O K (Walks.range (A := X.AA) (show X.AA.handled = none from O.handled) _ 0 1 n.toNat) hB (fun i v s Q E hw hQ => go_other ⟨_, hw, rfl, rfl⟩ (by decide) hQ) (fun i h hw => ⟨_, _, hw, rfl⟩) (s := s) (x2.trans ⟨⟨_, _, rfl, x3⟩, Nat.le_refl _⟩)
    (none_of_ext x2.ext) hfr (fun b hb hbI => absurd (List.mem_singleton.mp hb) hbI) (ds := rangeD n) (by simp [rangeD]) (fun i v h' hi hP hk => ?_) rfl hr hp hE (S₂.adv x3) (Nat.le_trans tk (Nat.le_trans x1.tk (by show s₁.toks ≤ s₁.toks + 1 + 1; (first | lia | omega)))) ?_
  · obtain ⟨u, rfl⟩ := hP
    refine ⟨.int i, ?_, ?_⟩
    · unfold rangeD
      rw [List.getElem?_map, List.getElem?_range hi]
      rfl
    · have e : (0 + (i : Int) * 1) = i := by (first | lia | omega)
      rw [e]
      exact .int _ _
  · have e1 : (0 + ((0 : Nat) : Int) * 1) = 0 := by simp
    have e2 : ((n.toNat : Int) - ((0 : Nat) : Int)) = Builtin.Range.rangeSize 0 n 1 := by rw [hsz]; simp
    rw [e1, e2]
    exact Heap.get?_push_size _ rfl

theorem ex_if (P : Prims) (O : X.Ok (k + 1)) (O' : X.Ok k) (K : CfgOk C X k) {n : Nat} {t : Expr} {b o : List Stmt} {pos : Pos} {s : Shared} (S : St X q oa s.heap) (tk : 1 ≤ s.toks)
    (hb : ∀ s', Adv X s s' → St X q oa s'.heap → 1 ≤ s'.toks → Ex X s' oa (PySem.execs b X.env) (execs C n q b)) (ho : ∀ s', Adv X s s' → St X q oa s'.heap → 1 ≤ s'.toks → Ex X s' oa (PySem.execs o X.env) (execs C n q o)) :
    Ex X s oa (PySem.exec (.If t b o pos) X.env) (Out.ofB (evT C n q t) fun c => if c then execs C n q b else execs C n q o) := by
  intro hr E hp hE
  have hr0 : evT C n q t ≠ .stuck := by intro h; rw [h] at hr; exact hr rfl
  refine wpAny_If (((evT_all P O O' K n).t s t S tk).use hr0 (fun v d s₁ e1 x1 rv => ?_) (fun e s' e1 y => hE e s' (by rw [e1]; rfl) ⟨q, oa, s, .refl s, S, y⟩))
  have rv : v = d := rv
  subst rv
  have eo : (Out.ofB (evT C n q t) fun c => if c then execs C n q b else execs C n q o) = if v then execs C n q b else execs C n q o := by rw [e1]; rfl
  rw [eo] at hr hE ⊢
  have S₁ := S.adv x1.ext
  have tk₁ := Nat.le_trans tk x1.tk
  cases v with
  | true => exact wpAny_mono (hb s₁ x1 S₁ tk₁ hr E hp (fun e s' e2 y => hE e s' e2 (y.back x1.zero.same))) (fun fl s' z => z.of x1.zero.same x1.ext.mod) fun _ _ z => z
  | false => exact wpAny_mono (ho s₁ x1 S₁ tk₁ hr E hp (fun e s' e2 y => hE e s' e2 (y.back x1.zero.same))) (fun fl s' z => z.of x1.zero.same x1.ext.mod) fun _ _ z => z
end
end
end Mine
namespace Mine
section
open PySem PySem.Calls PySem.Spec PyProof.Rows PySem.SeqAt

section
variable {X : Cx} {k : Nat} {C : Cfg}

theorem get_local {q : PS} {x : Str} {d : D} (h : nameD C q x = .ok d) (hl : localName C x = true) (hown : ∀ y ds, q.own = some (y, ds) → y ≠ x) : look q.rho x = some d ∧ x ≠ Str.ofString "__debug__" := by
  have hl' : C.kind x = some .local := by simpa [localName] using hl
  unfold nameD at h
  split at h
  · cases h
  · rename_i hd
    refine ⟨?_, hd⟩
    rw [hl'] at h
    dsimp only at h
    unfold PS.get at h
    cases ho : q.own with
    | none =>
      rw [ho] at h
      dsimp only at h
      cases hg : look q.rho x with
      | none => rw [hg] at h; cases h
      | some d' => rw [hg] at h; cases h; rfl
    | some p =>
      obtain ⟨y, ds⟩ := p
      rw [ho] at h
      dsimp only at h
      rw [if_neg (hown y ds ho)] at h
      cases hg : look q.rho x with
      | none => rw [hg] at h; cases h
      | some d' => rw [hg] at h; cases h; rfl

noncomputable abbrev forL (C : Cfg) (t : Expr) (fb : PS → Out) (q : PS) (r : R (List D)) : Out := Out.ofL r fun ds => forP C t fb ds q

theorem range_of {e : Expr} {f : Str} {a : Expr} (h : rangeOf e = some (f, a)) : ∃ np p, e = .Call (.Name f np) [a] [] p := by
  unfold rangeOf at h
  split at h
  · cases h; exact ⟨_, _, rfl⟩
  · cases h

theorem ex_forN (P : Prims) (O : X.Ok (k + 1)) (O' : X.Ok k) (K : CfgOk C X k) {t : Expr} {b : List Stmt} {fb : PS → Out} {x : Str} {np pos : Pos} {q : PS} {oa : Option Addr}
    (hB : ∀ q oa s, St X q oa s.heap → 1 ≤ s.toks → Ex X s oa (PySem.execs b X.env) (fb q)) {s : Shared} (S : St X q oa s.heap) (tk : 1 ≤ s.toks) :
    Ex X s oa (PySem.exec (.For t (.Name x np) b [] pos) X.env) (forL C t fb q ((nameD C q x).bind (itN C q x))) := by
  have hev := ev_name (pos := np) (x := x) O' K S
  cases hn : nameD C q x with
  | stuck => exact .stuck
  | raise => rw [hn] at hev; exact ex_forRaise S hev (by intro _ _ _ h; cases h)
  | ok d =>
    rw [hn] at hev
    cases d with
    | lst ds =>
      show Ex X s oa _ (forL C t fb q (if localName C x = true then (match q.own with | some (y, _) => if y = x then .stuck else .ok ds | none => .ok ds) else .stuck))
      by_cases hl : localName C x = true
      · rw [if_pos hl]
        cases ho : q.own with
        | none =>
          obtain ⟨h1, h2⟩ := get_local hn hl (by intro y ds e; rw [ho] at e; cases e)
          exact ex_forList O' K hB S tk hl h2 h1
        | some p =>
          obtain ⟨y, ds'⟩ := p
          by_cases hy : y = x
          · dsimp only
            rw [if_pos hy]
            exact .stuck
          · obtain ⟨h1, h2⟩ := get_local hn hl (by intro y' ds e; rw [ho] at e; cases e; exact hy)
            dsimp only
            rw [if_neg hy]
            exact ex_forList O' K hB S tk hl h2 h1
      · rw [if_neg hl]; exact .stuck
    | tup ds =>
      show Ex X s oa _ (forL C t fb q (if D.noLists ds = true then .ok ds else .stuck))
      by_cases hl : D.noLists ds = true
      · rw [if_pos hl]
        exact ex_forTup O' K hB S tk hev rfl hl (by intro _ _ _ h; cases h)
      · rw [if_neg hl]; exact .stuck
    | str x =>
      show Ex X s oa _ (forL C t fb q (if x.cps.all (· < 128) = true then .ok (textSigns x) else .stuck))
      by_cases hl : x.cps.all (· < 128) = true
      · rw [if_pos hl]
        exact ex_forStr O' K hB S tk hev rfl hl (by intro _ _ _ h; cases h)
      · rw [if_neg hl]; exact .stuck
    | _ => exact .stuck

theorem ex_forR (P : Prims) (O : X.Ok (k + 1)) (O' : X.Ok k) (K : CfgOk C X k) {n : Nat} {t a : Expr} {b : List Stmt} {fb : PS → Out} {np cp pos : Pos} {q : PS} {oa : Option Addr}
    (hB : ∀ q oa s, St X q oa s.heap → 1 ≤ s.toks → Ex X s oa (PySem.execs b X.env) (fb q)) {s : Shared} (S : St X q oa s.heap) (tk : 1 ≤ s.toks) (hk : C.kind (Str.ofString "range") = some .globalImplicit) (hb : C.B.contains (Str.ofString "range") = true) (hst : notStar a = true) :
    Ex X s oa (PySem.exec (.For t (.Call (.Name (Str.ofString "range") np) [a] [] cp) b [] pos) X.env) (forL C t fb q ((evE C n q a).bind itR)) := by
  have hev := (evAll P O O' K n).e s a S tk (X := X) (C := C) (q := q) (oa := oa)
  have hEs : Ev X (spliced (backTo cp (starEach [a] X.env))) ((evE C n q a).bind fun d => .ok [d]) VL s := by
    intro hr
    refine args_cons ?_ (star_cons hst)
    refine hev.use (bind_ne hr) (fun v d s₁ e1 x1 rv => ?_) (fun _ _ e y => ⟨by rw [e]; rfl, y⟩)
    exact args_nil ⟨[d], by rw [e1]; rfl, x1.zero, .cons rv .nil⟩
  have hk' : X.scope.names.lookup (Str.ofString "range") = some .globalImplicit := by rw [K.sc]; exact hk
  cases he : evE C n q a with
  | stuck => exact .stuck
  | raise =>
    rw [he] at hEs
    intro hr E hp hE
    refine wpAny_For (Call_ (wp_topName (v := .type "range") O'.w S.stays O'.kind hk' (.inr ⟨K.B _ hb, by decide +kernel, by decide +kernel⟩) (by decide +kernel) ?_)) (folded_no (by intro _ _ _ h; cases h))
    exact callWith_type1 (hEs.use (by simp [R.bind]) (fun _ _ _ e => by cases e) (fun e s' _ y => hE e s' rfl ⟨q, oa, s, .refl _, S, y⟩)) (star_cons hst) (stars_plain rfl)
  | ok d =>
    rw [he] at hEs
    cases d with
    | int i =>
      show Ex X s oa _ (forL C t fb q (if -1000 ≤ i ∧ i ≤ 1000 then .ok (rangeD i) else .stuck))
      by_cases hi : -1000 ≤ i ∧ i ≤ 1000
      · rw [if_pos hi]
        exact ex_forRange O' K hB S tk hEs hst rfl hi hk' (K.B _ hb)
      · rw [if_neg hi]; exact .stuck
    | _ => exact .stuck

theorem ex_forS (P : Prims) (O : X.Ok (k + 1)) (O' : X.Ok k) (K : CfgOk C X k) {n : Nat} {t v i : Expr} {b : List Stmt} {fb : PS → Out} {p pos : Pos} {q : PS} {oa : Option Addr}
    (hB : ∀ q oa s, St X q oa s.heap → 1 ≤ s.toks → Ex X s oa (PySem.execs b X.env) (fb q)) {s : Shared} (S : St X q oa s.heap) (tk : 1 ≤ s.toks) :
    Ex X s oa (PySem.exec (.For t (.Subscript v i p) b [] pos) X.env) (forL C t fb q ((evE C n q (.Subscript v i p)).bind itS)) := by
  have hev := (evAll P O O' K n).e s (.Subscript v i p) S tk (X := X) (C := C) (q := q) (oa := oa)
  cases he : evE C n q (.Subscript v i p) with
  | stuck => exact .stuck
  | raise => rw [he] at hev; exact ex_forRaise S hev (by intro _ _ _ h; cases h)
  | ok d =>
    rw [he] at hev
    cases d with
    | tup ds =>
      show Ex X s oa _ (forL C t fb q (if D.noLists ds = true then .ok ds else .stuck))
      by_cases hl : D.noLists ds = true
      · rw [if_pos hl]
        exact ex_forTup O' K hB S tk hev rfl hl (by intro _ _ _ h; cases h)
      · rw [if_neg hl]; exact .stuck
    | _ => exact .stuck

/-- every for -/
theorem ex_for (P : Prims) (O : X.Ok (k + 1)) (O' : X.Ok k) (K : CfgOk C X k) {n : Nat} {t it : Expr} {b : List Stmt} {fb : PS → Out} {pos : Pos} {q : PS} {oa : Option Addr}
    (hB : ∀ q oa s, St X q oa s.heap → 1 ≤ s.toks → Ex X s oa (PySem.execs b X.env) (fb q)) {s : Shared} (S : St X q oa s.heap) (tk : 1 ≤ s.toks) :
    Ex X s oa (PySem.exec (.For t it b [] pos) X.env) (forL C t fb q (iterD C n q it)) := by
  cases it with
  | Name x np => exact ex_forN P O O' K hB S tk
  | Call f as ks p =>
    show Ex X s oa _ (forL C t fb q (match rangeOf (.Call f as ks p) with
      | some fa => if fa.1 = Str.ofString "range" ∧ C.kind fa.1 = some .globalImplicit ∧ C.B.contains fa.1 ∧ notStar fa.2 then (evE C n q fa.2).bind itR else .stuck
      | none => .stuck))
    cases hc : rangeOf (.Call f as ks p) with
    | none => exact .stuck
    | some fa =>
      obtain ⟨g, a⟩ := fa
      obtain ⟨np, cp, e⟩ := range_of hc
      rw [e]
      by_cases h : g = Str.ofString "range" ∧ C.kind g = some .globalImplicit ∧ C.B.contains g ∧ notStar a
      · dsimp only
        rw [if_pos h]
        obtain ⟨rfl, hk, hb, hst⟩ := h
        exact ex_forR P O O' K hB S tk hk hb hst
      · dsimp only
        rw [if_neg h]
        exact .stuck
  | Subscript v i p => exact ex_forS P O O' K hB S tk
  | _ => exact .stuck

theorem app_of {e : Expr} {x name : Str} {ap cp : Pos} {a : Expr} (h : appOf e = some (x, name, ap, a, cp)) : ∃ np, e = .Call (.Attribute (.Name x np) name ap) [a] [] cp := by
  unfold appOf at h
  split at h
  · cases h; exact ⟨_, rfl⟩
  · cases h
theorem list_of {e : Expr} {es : List Expr} (h : listOf e = some es) : ∃ p, e = .List es p := by
  unfold listOf at h
  split at h
  · cases h; exact ⟨_, rfl⟩
  · cases h
theorem asg_of {b : List Stmt} {x : Str} {p : Pos} {e : Expr} (h : asgOf b = some (x, p, e)) : ∃ q, b = [.Assign [.Name x p] e q] := by
  unfold asgOf at h
  split at h
  · cases h; exact ⟨_, rfl⟩
  · cases h
theorem const_of {e : Expr} {c : Const} (h : constOf e = some c) : ∃ j p, e = .Constant c j p := by
  unfold constOf at h
  split at h
  · cases h; exact ⟨_, _, rfl⟩
  · cases h
theorem exc_of {l : List ExceptHandler} {v : Str} {b : List Stmt} (h : excOf l = some (v, b)) : ∃ vp hp, l = [.ExceptHandler (some (.Name v vp)) none b hp] := by
  unfold excOf at h
  split at h
  · cases h; exact ⟨_, _, rfl⟩
  · cases h

section
variable (P : Prims) (O : X.Ok (k + 1)) (O' : X.Ok k) (K : CfgOk C X k) {q : PS} {oa : Option Addr} {n : Nat} {s : Shared} (S : St X q oa s.heap) (tk : 1 ≤ s.toks)
include P O O' K S tk
theorem ex_expS {e : Expr} {pos : Pos} : Ex X s oa (PySem.exec (.Expr e pos) X.env) (expS C n q e) := by
  unfold expS
  cases hc : appOf e with
  | none => exact .stuck
  | some t =>
    obtain ⟨x, name, ap, a, cp⟩ := t
    obtain ⟨np, rfl⟩ := app_of hc
    dsimp only
    split
    · rename_i hc
      obtain ⟨rfl, hl, hst, hln, hdb⟩ := hc
      cases ho : q.own with
      | none => exact .stuck
      | some p =>
        obtain ⟨y, ds⟩ := p
        dsimp only
        by_cases hy : y = x ∧ ds.length ≤ 1000000
        · rw [if_pos hy]
          exact ex_append P O O' K S tk hl ho hy.1 hy.2 hst hln hdb
        · rw [if_neg hy]; exact .stuck
    · exact .stuck
theorem ex_asgS {t e : Expr} {pos : Pos} : Ex X s oa (PySem.exec (.Assign [t] e pos) X.env) (asgS C n q t e) := by
  cases t with
  | Name x p =>
    show Ex X s oa _ (match listOf e with | some es => if localName C x then ownO (evEs C n q es) q x else .stuck | none => asgO (evE C n q e) C q (.Name x p))
    cases hc : listOf e with
    | some es =>
      obtain ⟨lp, rfl⟩ := list_of hc
      dsimp only
      split
      · rename_i hl
        unfold ownO
        cases ho : q.own with
        | none => exact ex_ownNew P O O' K S tk hl ho
        | some p => exact .stuck
      · exact .stuck
    | none => exact ex_assignName P O O' K S tk
  | Tuple ts j p =>
    show Ex X s oa _ (if notTup e = true then asgO (evE C n q e) C q (.Tuple ts j p) else .stuck)
    split
    · rename_i hn
      exact ex_assignTuple P O O' K S tk hn
    · exact .stuck
  | _ => exact .stuck
theorem ex_raiseS {e : Expr} {pos : Pos} : Ex X s oa (PySem.exec (.Raise (some e) none pos) X.env) (raiseS C n q e) := by
  unfold raiseS
  cases hc : rangeOf e with
  | none => exact .stuck
  | some t =>
    obtain ⟨x, a⟩ := t
    obtain ⟨np, cp, rfl⟩ := range_of hc
    dsimp only
    split
    · rename_i hv
      simp only [Bool.and_eq_true] at hv
      exact ex_raise P O O' K S tk hv.1 hv.2
    · exact .stuck
theorem ex_tryS {b : List Stmt} {h : List ExceptHandler} {pos : Pos} : Ex X s oa (PySem.exec (.Try b h [] [] pos) X.env) (tryS C n q b h) := by
  unfold tryS
  cases h1 : asgOf b with
  | none => exact .stuck
  | some t =>
    obtain ⟨x, p, e⟩ := t
    obtain ⟨ap, rfl⟩ := asg_of h1
    dsimp only
    cases h2 : excOf h with
    | none => exact .stuck
    | some t =>
      obtain ⟨v, hb⟩ := t
      obtain ⟨vp, hp, rfl⟩ := exc_of h2
      dsimp only
      cases h3 : asgOf hb with
      | none => exact .stuck
      | some t =>
        obtain ⟨y, q', e'⟩ := t
        obtain ⟨aq, rfl⟩ := asg_of h3
        dsimp only
        cases h4 : constOf e' with
        | none => exact .stuck
        | some c =>
          obtain ⟨j, cpos, rfl⟩ := const_of h4
          dsimp only
          split
          · rename_i hv
            exact ex_try P O O' K S tk hv
          · exact .stuck
end

structure ExAll (X : Cx) (C : Cfg) (n : Nat) : Prop where
  s : ∀ q oa s st, St X q oa s.heap → 1 ≤ s.toks → Ex X s oa (PySem.exec st X.env) (exec C n q st)
  ss : ∀ q oa s sts, St X q oa s.heap → 1 ≤ s.toks → Ex X s oa (PySem.execs sts X.env) (execs C n q sts)

theorem exAll (P : Prims) (O : X.Ok (k + 1)) (O' : X.Ok k) (K : CfgOk C X k) : ∀ n, ExAll X C n
  | 0 => ⟨fun _ _ _ _ _ _ => .stuck, fun _ _ _ _ _ _ => .stuck⟩
  | n + 1 => by
    have A := exAll P O O' K n
    refine ⟨fun q oa s st S tk => ?_, fun q oa s sts S tk => ?_⟩
    · cases st with
      | Expr e p => exact ex_expS P O O' K S tk
      | Assign ts e p =>
        cases ts with
        | nil => exact .stuck
        | cons t ts =>
          cases ts with
          | nil => exact ex_asgS P O O' K S tk
          | cons _ _ => exact .stuck
      | If t b o p => exact ex_if P O O' K S tk (fun s' _ S' tk' => A.ss q oa s' _ S' tk') (fun s' _ S' tk' => A.ss q oa s' _ S' tk')
      | While t b o p =>
        cases o with
        | nil => exact ex_while (fun q oa s S tk => (evT_all P O O' K n).t s _ S tk) (fun q oa s S tk => A.ss q oa s _ S tk) S tk
        | cons _ _ => exact .stuck
      | For t it b o p =>
        cases o with
        | nil => exact ex_for P O O' K (fun q oa s S tk => A.ss q oa s _ S tk) S tk
        | cons _ _ => exact .stuck
      | Return e p =>
        cases e with
        | some e => exact ex_return P O O' K S tk
        | none => exact .stuck
      | Raise e c p =>
        cases e with
        | none => exact .stuck
        | some e =>
          cases c with
          | none => exact ex_raiseS P O O' K S tk
          | some _ => exact .stuck
      | Try b h o f p =>
        cases o with
        | cons _ _ => exact .stuck
        | nil =>
          cases f with
          | cons _ _ => exact .stuck
          | nil => exact ex_tryS P O O' K S tk
      | _ => exact .stuck
    · unfold execs
      split
      · exact fun _ E _ _ => wpAny_execs_nil ⟨rfl, .refl _, oa, S, .refl _ _⟩
      · rename_i st r
        intro hr E hp hE
        refine wpAny_execs_cons ?_
        cases hx : exec C n q st with
        | stuck => rw [hx] at hr; exact absurd rfl hr
        | raise =>
          rw [hx] at hE
          have := A.s q oa s st S tk
          rw [hx] at this
          exact wpAny_mono (this (by simp) E hp hE) (fun _ _ z => z.elim) fun _ _ z => z
        | ret d =>
          have := A.s q oa s st S tk
          rw [hx] at this
          refine wpAny_mono (this (by simp) E hp (fun _ _ e => by cases e)) (fun fl s' z => ?_) fun _ _ z => z
          obtain ⟨v, rfl, z⟩ := z
          exact ⟨v, rfl, z⟩
        | next q₁ =>
          have := A.s q oa s st S tk
          rw [hx] at this hr hE
          refine wpAny_mono (wpAny_toks_of tk (this (by simp) E hp (fun _ _ e => by cases e))) (fun fl s' z => ?_) fun _ _ z => z.2
          obtain ⟨tk', rfl, z1, oa₁, S₁, m₁⟩ := z
          exact wpAny_mono (A.ss q₁ oa₁ s' r S₁ tk' hr E hp (fun e s₂ e2 y => hE e s₂ e2 (y.back z1))) (fun _ _ z => z.of z1 m₁) fun _ _ z => z
end
end
end Mine
namespace Mine
section
open PySem PySem.Calls PySem.Spec PyProof.Rows PySem.SeqAt

/-- what a name of the text's stands for -/
noncomputable def FnAt (W : Wd) (f : Str) (params : Arguments) (body : List Stmt) (scope : Scope) : Prop :=
  ∃ a o pm cd doc, W.mg f = some (.ref a) ∧ W.base.get? a = some o ∧ o.data = .func (docDef f params body scope pm cd doc) ∧ W.base.CodeRec cd f

structure CfgW (C : Cfg) (W : Wd) (k : Nat) : Prop where
  G : ∀ x d, C.G x = some d → ∃ v, Rep Plain W.base v d ∧ TopName W x v
  B : ∀ x, C.B.contains x = true → W.mg x = none
  fns : ∀ x, C.fns.contains x = true → ∃ a o fd, W.mg x = some (.ref a) ∧ W.base.get? a = some o ∧ o.data = .func fd
  F : ∀ f ds, C.F f ds ≠ .stuck → CallOk W k f ds (C.F f ds)

theorem look_zip : ∀ (xs : List Str) (ds : List D) (vs : List Value) (h : Heap) (x : Str) (d : D), xs.Nodup → RepL Plain h vs ds → look (xs.zip ds) x = some d → ∃ v, (xs.zip vs).reverse.lookup x = some v ∧ Rep Plain h v d := by
  intro xs
  induction xs with
  | nil => intro ds vs h x d _ _ e; cases e
  | cons y ys ih =>
    intro ds vs h x d nd r e
    cases r with
    | nil => cases e
    | @cons v vs d' ds a r =>
      rw [List.nodup_cons] at nd
      have e : (if y = x then some d' else look (ys.zip ds) x) = some d := e
      rw [List.zip_cons_cons, List.reverse_cons, List.lookup_append]
      by_cases hy : y = x
      · rw [if_pos hy] at e
        cases e
        subst hy
        have hno : ((ys.zip vs).reverse).lookup y = none := by
          rw [List.lookup_eq_none_iff]
          intro p hp
          have := (List.of_mem_zip (List.mem_reverse.mp hp)).1
          simp only [bne_iff_ne, ne_eq]
          intro q
          rw [q] at nd
          exact nd.1 this
        rw [hno]
        exact ⟨v, by simp, a⟩
      · rw [if_neg hy] at e
        obtain ⟨w, h1, h2⟩ := ih ds vs h x d nd.2 r e
        exact ⟨w, by rw [h1]; rfl, h2⟩

section
variable {W : Wd} {k : Nat} {C : Cfg}

/-- an exception leaves the frame -/
theorem raise_leaves {X : Cx} {j : Nat} (O : X.Ok j) {s s' : Shared} {e : Value} (hl : LRaise X s e s') {Q : Unit → Shared → Prop} {E : Value → Shared → Prop}
    (hQ : ∀ ea h' tk, e = .ref ea → Same s { s with heap := h', toks := tk } → Ext (fr X.outer) X.g h' → (hide X.g (fr X.outer)).get? ea = none → h'.FunFrames (hide X.g (fr X.outer)) X.outer → (∃ a0, h'.TracedW (hide X.g (fr X.outer)) ea (.type "ValueError") a0) → Q () { s with heap := h', toks := tk }) :
    wpAny X.M X.AA (leaving X.env e) Q E s' := by
  obtain ⟨q, oa, s₁, sm, S, ea, h', tk, rfl, rfl, R⟩ := hl
  obtain ⟨h₁, t₁, rfl⟩ := sm
  have hfr : X.AA.frames = some (X.env :: X.outer) := Around.frames_deeper O.frames
  have hb : ∀ b o, (hide X.g (fr X.outer)).get? b = some o → (hide h₁ X.fs).get? b = some o := fun b o e => by
    obtain ⟨e1, e2⟩ := of_hide _ e
    refine hide_get _ (S.ext.keep b o e2 e1) ?_
    rw [X.fs_eq, List.mem_cons, not_or]
    exact ⟨fun q => (by rw [q, S.newL] at e1; cases e1), e2⟩
  have hnone : ∀ b, (hide h₁ X.fs).get? b = none → (hide X.g (fr X.outer)).get? b = none := fun b e => by
    cases q : (hide X.g (fr X.outer)).get? b with
    | none => rfl
    | some o => rw [hb b o q] at e; cases e
  have hst : (hide X.g (fr X.outer)).StaysIn h' := fun b o e => by
    obtain ⟨e1, e2⟩ := of_hide _ (hb b o e)
    exact R.ext.keep b o e2 e1
  have hff : h'.FunFrames (hide X.g (fr X.outer)) (X.env :: X.outer) := funFrames_rebase R.frames fun a m => by
    rcases List.mem_cons.mp (show a ∈ X.L :: fr X.outer from m) with rfl | m
    · exact hide_none' S.newL
    · exact hide_none m
  have fin : ∀ a0 h'', Heap.LeftW (hide X.g (fr X.outer)) (X.env :: X.outer) ea (.type "ValueError") a0 h' h'' → Q () { s with heap := h'', toks := tk } := fun a0 h'' hL => by
    obtain ⟨l1, l2, l3, l4⟩ := hL
    refine hQ ea h'' tk rfl ⟨h'', tk, rfl⟩ ⟨fun b o n e => l1 b o (hide_get _ e n), fun b o e => ?_⟩ (hnone _ R.new) (funFrames_tail l2) ⟨a0, l3⟩
    by_cases hm : b ∈ fr X.outer
    · obtain ⟨o', es, n, d1, d2⟩ := O.outerd b hm
      rw [e] at d1
      cases d1
      obtain ⟨sl, e1⟩ := S.ext.slots b o e
      obtain ⟨sl', e2⟩ := R.ext.slots b _ e1
      obtain ⟨sl'', e3⟩ := l4 b _ e2 (by intro vs q; rw [show o.data = .fields vs from q] at d2; cases d2)
      exact ⟨sl'', e3⟩
    · exact ⟨o.slots, l1 b o (hide_get _ e hm)⟩
  rcases R.exc with ⟨oe, vs, a0, h1, h2, h3, h4, h5⟩ | ⟨a0, ht⟩
  · refine wpAny_leaving_firstW (base := hide X.g (fr X.outer)) hfr hff rfl h1 hst (hnone _ R.new) h3 h5 h4 fun h'' hL => ?_
    rw [h2] at hL
    exact fin a0 h'' hL
  · refine wpAny_leaving_nextW (base := hide X.g (fr X.outer)) hfr hff rfl ?_ hst (hnone _ R.new) fun h'' hL => fin a0 h'' hL
    obtain ⟨oe, vs, T, oT, ts, y1, y2, y3, y4, y5, y6⟩ := ht
    exact ⟨oe, vs, T, oT, ts, y1, y2, y3, y4, hnone _ y5, y6⟩

/-- a def of the text's, called, does what its body says -/
theorem callOk_of (P : Prims) (wok : W.Ok) (K : CfgW C W k) {f : Str} {params : Arguments} {body : List Stmt} {scope : Scope} (hf : FnAt W f params body scope) (hsc : C.sc = scope) {xs : List Str} {ds : List D} (nd : xs.Nodup) (hne : 1 ≤ ds.length) (hlen : xs.length = ds.length)
    (hbind : ∀ pm cd doc (vals : List Value), vals.length = xs.length → bindArgs (docDef f params body scope pm cd doc) ⟨vals, []⟩ = pure (xs.zip vals)) (hloc : ∀ x ∈ xs, scope.names.lookup x = some .local)
    (hco : scope.isCoroutine = false) (hgen : scope.isGenerator = false) (hk : scope.kind = .function) (hcell : ∀ x ∈ scope.names, x.2 ≠ .cell) {n : Nat} {r : R D} (hr : outR (execs C n ⟨xs.zip ds, none⟩ body) = r) (hs : r ≠ .stuck) : CallOk W (k + 1) f ds r := by
  obtain ⟨a, o, pm, cd, doc, f1, f2, f3, f4⟩ := hf
  refine ⟨a, o, _, f1, f2, f3, fun A outer s vals hfr hh hd hu hst hff hdc hrep => ?_⟩
  refine wpAny_call ?_
  have hvl : vals.length = xs.length := by rw [hrep.length, hlen]
  refine call_plain (binds := xs.zip vals) (by (first | lia | omega)) (hst _ _ f2) f3 (wok.nolimit.keeps hst) (f4.keeps hst) (hbind pm cd doc vals hvl) (fun x hx => hloc x.1 (List.of_mem_zip (show (x.1, x.2) ∈ xs.zip vals from hx)).1) (fun h₁ F => ?_) hco hgen hk hcell
  let X : Cx := ⟨W, A, outer, f, scope, s.heap.objs.size, a, cd, s.heap⟩
  have hnL : s.heap.get? s.heap.objs.size = none := Heap.get?_none_of_le (Nat.le_refl _)
  have O : X.Ok (k + 1) := ⟨wok, hfr, hh, hd, hu, hk, hst, hnL, hff, hdc⟩
  have O' : X.Ok k := ⟨wok, hfr, hh, by show A.depth + k < _; (first | lia | omega), by show A.units + 100 * (k + 1) < _; (first | lia | omega), hk, hst, hnL, hff, hdc⟩
  have KX : CfgOk C X k := ⟨hsc.symm, K.G, K.B, K.fns, K.F⟩
  have x0 : Ext (fr outer) s.heap h₁ := .of_keeps F.keep
  have S : St X ⟨xs.zip ds, none⟩ none h₁ := by
    refine ⟨fun b o e => F.keep b o (hst b o e), ⟨?_, ⟨s.heap.objs.size, ?_⟩, ?_⟩, x0, ⟨_, F.ns, fun x d e => ?_, trivial⟩, fun a e => (by cases e), hnL⟩
    · show scope.kind ≠ .module
      rw [hk]; decide
    · obtain ⟨o, es, ep, h1, h2, _⟩ := F.ns
      refine ⟨o, rfl, ?_, h1, fun vs q => by rw [h2] at q; cases q⟩
      cases q : W.base.get? s.heap.objs.size with
      | none => rfl
      | some o' => rw [hst _ _ q] at hnL; cases hnL
    · exact funFrames_ext x0 hff
    · obtain ⟨v, h1, h2⟩ := look_zip xs ds vals s.heap x d nd hrep e
      exact ⟨v, h1, (h2.ext x0).imp fun _ _ _ _ q => by cases q⟩
  have hE := (exAll P O O' KX n).ss ⟨xs.zip ds, none⟩ none { s with heap := h₁, toks := s.toks + (xs.zip vals).length } body S (by
    show 1 ≤ s.toks + (xs.zip vals).length
    rw [List.length_zip, hvl, Nat.min_self, hlen]; (first | lia | omega))
  have hout : execs C n ⟨xs.zip ds, none⟩ body ≠ .stuck := by intro q; rw [q] at hr; exact hs hr.symm
  refine wpAny_mono (hE hout _ PassesOwn.leaving fun e s' e1 hl => ?_) (fun fl s' hp => ?_) fun e s' h => h
  · refine raise_leaves O hl fun ea h' tk q1 q2 q3 q4 q5 q6 => ?_
    subst q1
    exact ⟨by rw [← hr, e1]; rfl, ea, h', tk, rfl, rfl, q3, q4, q5, q6⟩
  · generalize hg : execs C n ⟨xs.zip ds, none⟩ body = out at hp hr hout
    cases out with
    | next q =>
      obtain ⟨rfl, ⟨h', tk, rfl⟩, oa', S', _⟩ := hp
      exact ⟨.none, h', tk, hr.symm, rfl, S'.ext, .none⟩
    | ret d =>
      obtain ⟨v, rfl, ⟨h', tk, rfl⟩, rv, fi⟩ := hp
      exact ⟨d, h', tk, hr.symm, rfl, fi.2, rv⟩
    | raise => exact hp.elim
    | stuck => exact absurd rfl hout
end
end
end Mine
namespace Mine
section
open PySem PySem.Calls PySem.Spec PyProof.Rows PySem.SeqAt PySem.W

theorem prim_add : AddBytes := fun _ _ _ _ _ _ _ _ _ _ hs h => KBy.add_bytes hs h

theorem gives_mul0 {n : Int} {t u : Tok} (hf : Builtin.Bytes.fitsIndex n = true) : Gives (Builtin.«bytes.__mul__» ⟨[.bytes #[] t, .int n u], []⟩) (.val (.bytes #[] t)) := by
  refine .of_wp fun M A E s Q hq => ?_
  show wpAny M A (Builtin.Bytes.repeatArgs .bytes "__mul__" ⟨[.bytes #[] t, .int n u], []⟩ >>= fun r => _) _ E s
  refine wpAny_bind (wpAny_of_eq (BMul.args_eq hf) ?_)
  refine wpAny_bind (wpAny_of_eq (a := #[]) rfl ?_)
  have e1 : (#[] : Array UInt8).size * n.toNat = 0 := by simp
  show wpAny M A (if (#[] : Array UInt8).size * n.toNat ≥ 2 ^ 63 then _ else _) _ E s
  rw [if_neg (by rw [e1]; decide)]
  refine bm_if_true (by rw [e1]; rfl) ?_
  refine wpAny_bind (wpAny_typeOf (typeIs_bytes s #[] t) ?_)
  exact wpAny_bind (wpAny_rule (wpAny_pure ⟨_, rfl, hq⟩))

theorem prim_mul : MulBytes := fun prog w A E s b n t u Q hs h0 h1 h => by
  by_cases hb : b = []
  · subst hb
    have hf : Builtin.Bytes.fitsIndex n = true := by
      simp only [Builtin.Bytes.fitsIndex, Bool.and_eq_true, decide_eq_true_eq]
      (first | lia | omega)
    refine wpAny_binaryOp_repeat (T := "bytes") (U := "int") (by decide) (fun s' => typeIs_bytes s' _ t) (fun s' => typeIs_int s' n u) BMul.noFill F.fills_int_mul F.slot_int_rmul BMul.repeats F.slot_int_index.lookup
      (call_gives F.slot_int_rmul (typeIs_int s n u) F.entry_int_rmul (F.args_int_rmul_2 _ _) (BMul.int_declines n u _ t)
        ⟨rfl, call_gives BMul.slot_mul (typeIs_bytes s _ t) BMul.entry_mul (BMul.args_mul _ _) (gives_mul0 hf) ?_⟩)
    have h' := h t s.toks
    have e : (List.replicate n.toNat ([] : List UInt8)).flatten = [] := by simp
    rw [e] at h'
    exact h'
  · exact bytes_mul_any hb (by (first | lia | omega)) (by (first | lia | omega)) hs h

theorem prim_cut : CutBytes := fun prog w A E s b t l u lo hi a Q hl hu hz hs h => by
  refine getItem_meets (typeIs_bytes _ _ _) (by decide) FB.slot_bytes_getitem FB.entry_bytes_getitem (FB.args_bytes_getitem_2 _ _) (KBc.meets_slice2 b.toArray t _ hl hu)
    ⟨hs, Nat.le_trans (KBc.size_picked_le b.toArray lo hi) (by rw [sizeLine_eq]; simpa using hz), fun t' k => ?_⟩
  have h' := h t' k
  rw [KBc.picked_eq]
  simpa using h'

theorem prim_make : MakeBytes := fun _ _ _ _ _ _ _ _ _ hl hi hr hz hh h => call_bytes_ints hl hi hr hz hh h

theorem slot_join : Slot "bytes" "join" "bytes.join" :=
  .of (owner := "bytes") (n := "join") (by rw [typeLookup_type, builtinLookup_eq_fast]; kernel_rfl) (by decide +kernel) (by decide +kernel) (by decide +kernel)
    (by first | exact .inl (by decide +kernel) | exact .inr (by decide +kernel)) (by rw [isSubtype_type]; kernel_rfl)
theorem entry_join : entryFor table "bytes.join" = some Builtin.«bytes.join» := by first | exact entryFor_of_tree (by kernel_rfl) | exact entryFor_of_fast (by kernel_rfl)
theorem args_join (a b : Value) : argsOk "bytes.join" ⟨[a, b], []⟩ := by
  unfold argsOk; rw [signature?_of (id := "bytes.join") (n := ['n', 'i', 'o', 'j']) (o := ['s', 'e', 't', 'y', 'b']) (by kernel_rfl) FB.owner_bytes]; kernel_rfl

theorem buffer_any {id : String} {b : Array UInt8} {t : Tok} {full : Bool} : Builtin.Bytes.buffer? id (.bytes b t) full = pure (some b) := by
  unfold Builtin.Bytes.buffer?
  rw [KBy.special_eq KBy.look_buffer, KBy.own_buffer, KBy.own_release]
  kernel_rfl
theorem take_eq {id : String} {b : Array UInt8} {t : Tok} : Builtin.Bytes.takeBufferQuiet? id (.bytes b t) 0 = pure (some (b, none)) := by
  unfold Builtin.Bytes.takeBufferQuiet? Builtin.Bytes.takeBuffer?
  rw [KBy.special_eq KBy.look_buffer, KBy.own_buffer, buffer_any]
  kernel_rfl

theorem wp_joinLetGo {M : Model} {A : Around} {E : Value → Shared → Prop} {s : Shared} {Q : Unit → Shared → Prop} : ∀ (l : List (Value × Option Value)) (keep : List Value), (∀ x ∈ l, x.2 = none) → Q () s → wpAny M A (Builtin.Bytes.joinLetGo l keep) Q E s
  | [], _, _, h => wpAny_pure h
  | (x, w) :: r, keep, hn, h => by
    have hw : w = none := hn (x, w) List.mem_cons_self
    subst hw
    unfold Builtin.Bytes.joinLetGo
    refine wpAny_bind (wpAny_letGo ?_)
    exact wp_joinLetGo r keep (fun y hy => hn y (List.mem_cons_of_mem _ hy)) h

theorem joined_nil (ls : List (List UInt8)) : Builtin.Bytes.joined #[] (ls.map List.toArray) = ls.flatten.toArray := by
  have key : ∀ (ls : List (List UInt8)) (i : Nat) (acc : List UInt8), ((ls.map List.toArray).zipIdx i).foldl (fun out (p : Array UInt8 × Nat) => (if p.2 > 0 then out ++ #[] else out) ++ p.1) acc.toArray = (acc ++ ls.flatten).toArray := by
    intro ls
    induction ls with
    | nil => intro i acc; simp
    | cons a r ih =>
      intro i acc
      rw [List.map_cons, List.zipIdx_cons, List.foldl_cons]
      have e : ((if i > 0 then acc.toArray ++ #[] else acc.toArray) ++ a.toArray) = (acc ++ a).toArray := by
        split <;> simp
      show List.foldl _ ((if i > 0 then acc.toArray ++ #[] else acc.toArray) ++ a.toArray) _ = _
      rw [e, ih]
      simp
  have := key ls 0 []
  simpa [Builtin.Bytes.joined] using this

theorem m1_one {β : Type} (f : Value → β) (g : Array Value → β) (v : Value) : Builtin.Bytes.joinM.match_1 (fun _ => β) [v].toArray f g = f v := rfl

theorem meets_join (t : Tok) (l : Addr) (vs : List Value) (bs : List (List UInt8)) :
    Meets (Builtin.«bytes.join» ⟨[.bytes #[] t, .ref l], []⟩) (fun _ R s => s.heap.IsList l vs.toArray ∧ RepL Plain s.heap vs (bs.map D.bytes) ∧ bs ≠ [] ∧ bs.flatten.length ≤ 16777216 ∧ ∀ t' k, R (.ok (.ret (.bytes bs.flatten.toArray t'))) { s with toks := k }) := by
  refine .of_wp fun prog w A R s hS => ?_
  obtain ⟨hl, hr, hne, hz, h⟩ := hS
  have hT : s.TypeIs (.ref l) "list" := hl.typeIs
  obtain ⟨ol, hol, hoc, nl, hod⟩ := id hl
  have hseq : ∀ {A : Around} {E : Value → Shared → Prop} {Q : Option (Array Value) → Shared → Prop} {s' : Shared}, s'.heap = s.heap → Q (some vs.toArray) s' → wpAny (model prog w) A (seqItems? (.ref l)) Q E s' := fun e q => by
    unfold seqItems?
    refine wpAny_bind (wpAny_load (e ▸ hol) ?_)
    rw [hod]
    exact wpAny_pure q
  unfold Builtin.«bytes.join» Builtin.Bytes.joinM
  refine wpAny_bind (wpAny_of_eq (a := (Value.bytes #[] t, Value.ref l)) rfl ?_)
  dsimp only
  refine bm_if_true rfl ?_
  refine wpAny_bind ?_
  unfold Builtin.Bytes.joinItems
  refine wpAny_bind (wpAny_typeOf hT ?_)
  refine bm_if_true rfl ?_
  refine wpAny_pure ?_
  refine wpAny_bind (hseq rfl ?_)
  dsimp only
  refine bm_if_true rfl ?_
  have hcase : (∃ x, vs = [x]) ∨ ∃ x y r, vs = x :: y :: r := by
    cases vs with
    | nil => cases bs with
      | nil => exact absurd rfl hne
      | cons b r => cases hr
    | cons x r => cases r with
      | nil => exact .inl ⟨x, rfl⟩
      | cons y r => exact .inr ⟨x, y, r, rfl⟩
  rcases hcase with ⟨x, rfl⟩ | ⟨x, y, r, hv⟩
  · rw [m1_one]
    cases bs with
    | nil => exact absurd rfl hne
    | cons b r =>
      cases hr with
      | cons r1 r2 =>
        cases r with
        | cons c r => cases r2
        | nil =>
          cases r1 with
          | bytes _ u =>
            refine wpAny_bind (wpAny_typeOf (typeIs_bytes s _ u) ?_)
            refine bm_if_true rfl ?_
            refine wpAny_bind (wpAny_rule (wpAny_pure ⟨_, rfl, ?_⟩))
            have h' := h u s.toks
            simpa using h'
  · have hm : ∀ {β : Type} (f : Value → β) (g : Array Value → β), Builtin.Bytes.joinM.match_1 (fun _ => β) vs.toArray f g = g vs.toArray := by
      intro β f g
      rw [hv]
      rfl
    rw [hm]
    refine wpAny_bind ?_
    have hlen : vs.length = bs.length := by rw [hr.length, List.length_map]
    rw [Std.Legacy.Range.forIn_eq_forIn_range']
    refine wpAny_forIn_list _ (fun rest st s' => s' = s ∧ ∃ i, i ≤ vs.length ∧ rest = List.range' i (vs.length - i) ∧ st.1 = ((bs.take i).map List.toArray).toArray ∧ ∀ x ∈ st.2, x.2 = none ∧ x.1.onHeap = false) _ (fun j rest st s' hI => ?_) (fun st s' hI => ?_) _ _ ?_
    · obtain ⟨rfl, i, hi, hrest, hparts, htaken⟩ := hI
      have hlt : i < vs.length := by
        rcases Nat.lt_or_ge i vs.length with q | q
        · exact q
        · rw [Nat.sub_eq_zero_of_le q] at hrest; cases hrest
      have hr1 : vs.length - i = (vs.length - (i + 1)) + 1 := by (first | lia | omega)
      rw [hr1, List.range'_succ] at hrest
      injection hrest with hj hrest
      subst hj
      obtain ⟨v, hv, rv⟩ := hr.get (k := j) (d := .bytes (bs[j]'(by (first | lia | omega)))) (by simp [hlen ▸ hlt])
      refine wpAny_bind (hseq rfl ?_)
      dsimp only
      have hany : (Builtin.Bytes.Kind.bytes == Builtin.Bytes.Kind.bytearray || st.2.any fun x => x.1.onHeap) = false := by
        rw [Bool.or_eq_false_iff]
        refine ⟨rfl, ?_⟩
        rw [List.any_eq_false]
        intro x hx
        rw [(htaken x hx).2]
        exact Bool.false_ne_true
      refine bm_if_false hany ?_
      have hget : vs.toArray.getD j Value.none = v := by simp [hv]
      rw [hget]
      generalize hb : bs[j] = bb at rv
      cases rv with
      | bytes _ u =>
      refine wpAny_bind (wpAny_holding (wpAny_of_eq take_eq ?_))
      dsimp only
      refine wpAny_bind (hseq rfl ?_)
      dsimp only
      refine bm_if_false (by simp) ?_
      refine wpAny_pure ⟨rfl, j + 1, hlt, hrest, ?_, ?_⟩
      · rw [hparts]
        have : bs.take (j + 1) = bs.take j ++ [bb] := by rw [List.take_add_one, List.getElem?_eq_getElem (by (first | lia | omega)), hb]; rfl
        rw [this]
        simp
      · intro x hx
        rcases List.mem_append.mp hx with q | q
        · exact htaken x q
        · rw [List.mem_singleton.mp q]; exact ⟨rfl, rfl⟩
    · obtain ⟨rfl, i, hi, hrest, hparts, htaken⟩ := hI
      have hii : i = vs.length := by
        rcases Nat.lt_or_ge i vs.length with q | q
        · have hr1 : vs.length - i = (vs.length - (i + 1)) + 1 := by (first | lia | omega)
          rw [hr1, List.range'_succ] at hrest
          cases hrest
        · (first | lia | omega)
      have hp : st.1.toList = bs.map List.toArray := by rw [hparts, hii, hlen, List.take_length]
      refine wpAny_bind (wpAny_of_eq (a := #[]) rfl ?_)
      have hfold : ∀ (ls : List (List UInt8)) (n : Nat), (ls.map List.toArray).foldl (fun m (a : Array UInt8) => m + a.size) n = n + ls.flatten.length := by
        intro ls
        induction ls with
        | nil => intro n; rfl
        | cons a r ih => intro n; rw [List.map_cons, List.foldl_cons, ih, List.flatten_cons, List.length_append, List.size_toArray]; (first | lia | omega)
      have hlong : Builtin.Bytes.tooLong (st.1.foldl (· + ·.size) ((#[] : Array UInt8).size * (st.1.size - 1))) = false := by
        rw [← Array.foldl_toList, hp, hfold]
        exact KBy.tooLong_not (by simpa using hz)
      refine bm_if_false hlong ?_
      refine wpAny_bind ?_
      rw [hp, joined_nil]
      refine wpAny_mkBytes ?_ (by rw [sizeLine_eq]; simpa using hz)
      refine wpAny_bind (wpAny_holding (wpAny_point ?_))
      refine wpAny_bind (wp_joinLetGo _ _ (fun x hx => (htaken x hx).1) ?_)
      exact wpAny_pure ⟨_, rfl, h _ _⟩
    · exact ⟨rfl, 0, Nat.zero_le _, by simp, by simp, by simp⟩

theorem prim_join : JoinBytes := fun _ _ _ _ s l t vs bs _ hl hr hne _ hz _ h =>
  call_meets slot_join (typeIs_bytes _ _ _) entry_join (args_join _ _) (meets_join t l vs bs) ⟨hl, hr, hne, hz, fun t' k => h s.heap t' k fun _ _ e => e⟩

theorem prims : Prims := ⟨prim_add, prim_mul, prim_cut, prim_make, prim_join⟩
end
end Mine
namespace Mine
section
open PySem PySem.Calls PySem.Spec PyProof.Rows PySem.SeqAt

theorem CallOk.mono {W : Wd} {k j : Nat} {f : Str} {ds : List D} {r : R D} (h : CallOk W k f ds r) (hk : k ≤ j) : CallOk W j f ds r := by
  obtain ⟨a, o, fd, h1, h2, h3, h4⟩ := h
  exact ⟨a, o, fd, h1, h2, h3, fun A outer s vals q1 q2 q3 q4 => h4 A outer s vals q1 q2 (by (first | lia | omega)) (by (first | lia | omega))⟩

structure FnOk (W : Wd) (d : Fn) : Prop where
  at_ : FnAt W d.name d.params d.body d.scope
  nd : d.xs.Nodup
  bind : ∀ pm cd doc (vals : List Value), vals.length = d.xs.length → bindArgs (docDef d.name d.params d.body d.scope pm cd doc) ⟨vals, []⟩ = pure (d.xs.zip vals)
  loc : ∀ x ∈ d.xs, d.scope.names.lookup x = some .local
  co : d.scope.isCoroutine = false
  gen : d.scope.isGenerator = false
  kind : d.scope.kind = .function
  cell : ∀ x ∈ d.scope.names, x.2 ≠ .cell

structure PgOk (P : Pg) (W : Wd) : Prop where
  w : W.Ok
  tbl : ∀ d ∈ P.tbl, FnOk W d
  nat : ∀ f g, P.nat.lookup f = some g → ∀ ds, g ds ≠ .stuck → CallOk W 1 f ds (g ds)
  G : ∀ x d, P.G x = some d → ∃ v, Rep Plain W.base v d ∧ TopName W x v
  B : ∀ x, P.B.contains x = true → W.mg x = none
  fns : ∀ x, P.fns.contains x = true → ∃ a o fd, W.mg x = some (.ref a) ∧ W.base.get? a = some o ∧ o.data = .func fd

theorem fk_ok {P : Pg} {W : Wd} (H : PgOk P W) : ∀ k f ds, Fk P k f ds ≠ .stuck → CallOk W k f ds (Fk P k f ds)
  | 0, f, ds, h => absurd rfl h
  | k + 1, f, ds, h => by
    unfold Fk at h ⊢
    cases hn : P.nat.lookup f with
    | some g =>
      rw [hn] at h
      exact (H.nat f g hn ds h).mono (by (first | lia | omega))
    | none =>
      rw [hn] at h
      dsimp only at h ⊢
      cases hd : P.tbl.find? (fun d => decide (d.name = f)) with
      | none => rw [hd] at h; exact absurd rfl h
      | some d =>
        rw [hd] at h
        dsimp only at h ⊢
        split at h
        · rename_i hc
          rw [if_pos hc]
          have hm := List.mem_of_find?_eq_some hd
          have hf : d.name = f := by simpa using List.find?_some hd
          have F := H.tbl d hm
          subst hf
          exact callOk_of prims H.w ⟨H.G, H.B, H.fns, fk_ok H k⟩ F.at_ rfl F.nd hc.2 hc.1.symm F.bind F.loc F.co F.gen F.kind F.cell rfl h
        · exact absurd rfl h
end
end Mine
namespace Mine
section
open PySem

/-! names -/
theorem str_eq (a b : String) : (Str.ofString a = Str.ofString b) = (a = b) := by
  refine propext ⟨fun h => ?_, fun h => by rw [h]⟩
  rw [Str.ofString_eq_toList, Str.ofString_eq_toList] at h
  have h : (a.toList.map Char.toNat).toArray = (b.toList.map Char.toNat).toArray := by injection h
  have h : a.toList.map Char.toNat = b.toList.map Char.toNat := by simpa using h
  exact String.toList_inj.mp ((List.map_inj_right (fun x y e => Char.ext (UInt32.toNat.inj e))).mp h)
theorem str_beq (a b : String) : (Str.ofString a == Str.ofString b) = decide (a = b) := by
  rw [Bool.eq_iff_iff]
  simp [str_eq]
theorem lk_cons {β : Type} (a b : String) (v : β) (r : List (Str × β)) : List.lookup (Str.ofString a) ((Str.ofString b, v) :: r) = if a = b then some v else List.lookup (Str.ofString a) r := by
  rw [List.lookup_cons, str_beq]
  by_cases h : a = b <;> simp [h]
theorem lk_nil {β : Type} (a : Str) : List.lookup a ([] : List (Str × β)) = none := rfl
theorem look_str (a b : String) (v : D) (r : List (Str × D)) : look ((Str.ofString b, v) :: r) (Str.ofString a) = if b = a then some v else look r (Str.ofString a) := by
  show (if Str.ofString b = Str.ofString a then _ else _) = _
  simp only [str_eq]
theorem look_nil (x : Str) : look [] x = none := rfl
theorem put_str (a b : String) (v d : D) (r : List (Str × D)) : put ((Str.ofString b, v) :: r) (Str.ofString a) d = if b = a then (Str.ofString b, d) :: r else (Str.ofString b, v) :: put r (Str.ofString a) d := by
  show (if Str.ofString b = Str.ofString a then _ else _) = _
  simp only [str_eq]
theorem put_nil (x : Str) (d : D) : put [] x d = [(x, d)] := rfl
noncomputable def nameK (k : Option NameKind) (C : Cfg) (s : PS) (x : Str) : R D :=
  match k with
  | some .local => getR (s.get x)
  | some .globalImplicit => getR (C.G x)
  | _ => .stuck
theorem getR_some (d : D) : getR (some d) = .ok d := rfl
theorem get_n (rho : List (Str × D)) (x : Str) : PS.get ⟨rho, none⟩ x = look rho x := rfl
theorem set_n (rho : List (Str × D)) (x : Str) (d : D) : PS.set ⟨rho, none⟩ x d = some ⟨put rho x d, none⟩ := rfl
/-! expressions -/
theorem bind_ok {α β : Type} (a : α) (f : α → R β) : (R.ok a).bind f = f a := rfl
section
variable (C : Cfg) (n : Nat) (s : PS)
theorem e_const (c : Const) (k : Nat) (p : Pos) : evE C (n + 1) s (.Constant c k p) = constD c := rfl
theorem e_name (x : Str) (p : Pos) : evE C (n + 1) s (.Name x p) = nameD C s x := rfl
theorem e_bin (l r : Expr) (op : Operator) (p : Pos) : evE C (n + 1) s (.BinOp l op r p) = (evE C n s l).bind fun a => (evE C n s r).bind fun b => binD op a b := rfl
theorem e_neg (x : Expr) (p : Pos) : evE C (n + 1) s (.UnaryOp .USub x p) = (evE C n s x).bind negD := rfl
theorem e_neg_int (i : Int) : negD (.int i) = .ok (.int (-i)) := rfl
noncomputable def boolR (b : Bool) : R D := .ok (.bool b)
theorem e_cmp (l r : Expr) (op : CmpOp) (p : Pos) (h : behindInMarks op r = false) : evE C (n + 1) s (.Compare l [op] [r] p) = (evE C n s l).bind fun a => (evE C n s r).bind fun b => (cmpD op a b).bind boolR := by
  show (if behindInMarks op r = true then _ else _) = _
  rw [h]
  rfl
theorem e_call (f : Str) (np p : Pos) (a : Expr) (args : List Expr) (h : (noStars (a :: args) && calleeOk C f) = true) : evE C (n + 1) s (.Call (.Name f np) (a :: args) [] p) = (evEs C n s (a :: args)).bind fun ds => callD C f ds := by
  show (if (noStars (a :: args) && calleeOk C f) = true then _ else _) = _
  rw [h]
  rfl
theorem e_slice (v : Expr) (lo hi : Option Expr) (q p : Pos) : evE C (n + 1) s (.Subscript v (.Slice lo hi none q) p) = (evE C n s v).bind fun a => (evO C n s lo).bind fun l => (evO C n s hi).bind fun h => (partD l).bind fun l => (partD h).bind fun h => cutD a l h := rfl
theorem e_subN (v : Expr) (x : Str) (q p : Pos) : evE C (n + 1) s (.Subscript v (.Name x q) p) = (evE C n s v).bind fun a => (evE C n s (.Name x q)).bind fun b => idxD a b := rfl
theorem e_subC (v : Expr) (c : Const) (k : Nat) (q p : Pos) : evE C (n + 1) s (.Subscript v (.Constant c k q) p) = (evE C n s v).bind fun a => (evE C n s (.Constant c k q)).bind fun b => idxD a b := rfl
theorem e_subB (v l r : Expr) (op : Operator) (q p : Pos) : evE C (n + 1) s (.Subscript v (.BinOp l op r q) p) = (evE C n s v).bind fun a => (evE C n s (.BinOp l op r q)).bind fun b => idxD a b := rfl
theorem e_tup (es : List Expr) (k : Nat) (p : Pos) (h : es.length ≤ 1000) : evE C (n + 1) s (.Tuple es k p) = (evEs C n s es).bind fun ds => .ok (.tup ds) := by
  show (if es.length ≤ 1000 then _ else _) = _
  rw [if_pos h]
theorem e_lst (es : List Expr) (p : Pos) (h : es.length ≤ 1000) : evE C (n + 1) s (.List es p) = (evEs C n s es).bind fun ds => .ok (.lst ds) := by
  show (if es.length ≤ 1000 then _ else _) = _
  rw [if_pos h]
theorem es_nil : evEs C (n + 1) s [] = .ok [] := rfl
theorem es_cons (e : Expr) (r : List Expr) : evEs C (n + 1) s (e :: r) = (evE C n s e).bind fun d => (evEs C n s r).bind fun ds => .ok (d :: ds) := rfl
theorem o_none : evO C (n + 1) s none = .ok .none := rfl
theorem o_some (e : Expr) : evO C (n + 1) s (some e) = evE C n s e := rfl
theorem part_none : partD .none = .ok none := rfl
theorem part_int (i : Int) : partD (.int i) = .ok (some i) := rfl
theorem c_int (i : Int) : constD (.int i) = .ok (.int i) := rfl
theorem c_str (i : Str) : constD (.str i) = .ok (.str i) := rfl
theorem c_bytes (i : List UInt8) : constD (.bytes i) = .ok (.bytes i) := rfl
theorem c_none : constD .none = .ok .none := rfl
theorem c_bool (b : Bool) : constD (.bool b) = .ok (.bool b) := rfl

/-! operators -/
theorem b_add (a b : Int) : binD .Add (.int a) (.int b) = .ok (.int (a + b)) := rfl
theorem b_sub (a b : Int) : binD .Sub (.int a) (.int b) = .ok (.int (a - b)) := rfl
theorem b_mul (a b : Int) (h : (-big < a ∧ a < big) ∨ (-big < b ∧ b < big)) : binD .Mult (.int a) (.int b) = .ok (.int (a * b)) := by
  show (if _ then _ else _) = _
  rw [if_pos h]
theorem b_div (a b : Int) (h : 0 < b ∧ b < 1073741824) : binD .FloorDiv (.int a) (.int b) = .ok (.int (a / b)) := by
  show (if _ then _ else _) = _
  rw [if_pos h]
theorem b_mod (a b : Int) (h : 0 < b) : binD .Mod (.int a) (.int b) = .ok (.int (a % b)) := by
  show (if _ then _ else _) = _
  rw [if_pos h]
theorem b_pow (a b : Int) (h : 0 ≤ b ∧ b ≤ 1000 ∧ -big < a ∧ a < big) : binD .Pow (.int a) (.int b) = .ok (.int (a ^ b.toNat)) := by
  show (if _ then _ else _) = _
  rw [if_pos h]
theorem b_cat (a b : List UInt8) (h : a.length + b.length ≤ line) : binD .Add (.bytes a) (.bytes b) = .ok (.bytes (a ++ b)) := by
  show (if _ then _ else _) = _
  rw [if_pos h]
theorem m_lt (a b : Int) : cmpD .Lt (.int a) (.int b) = .ok (decide (a < b)) := rfl
theorem m_le (a b : Int) : cmpD .LtE (.int a) (.int b) = .ok (decide (a ≤ b)) := rfl
theorem m_gt (a b : Int) : cmpD .Gt (.int a) (.int b) = .ok (decide (a > b)) := rfl
theorem m_ge (a b : Int) : cmpD .GtE (.int a) (.int b) = .ok (decide (a ≥ b)) := rfl
theorem m_eq (a b : D) : cmpD .Eq a b = eqR (eqD 4 a b) := rfl
theorem m_ne (a b : D) : cmpD .NotEq a b = neR (eqD 4 a b) := rfl
theorem eqR_some (b : Bool) : eqR (some b) = .ok b := rfl
theorem neR_some (b : Bool) : neR (some b) = .ok !b := rfl
theorem q_int (a b : Int) : eqD 4 (.int a) (.int b) = some (a == b) := rfl
theorem q_str (a b : Str) : eqD 4 (.str a) (.str b) = some (a == b) := rfl
theorem q_bytes (a b : List UInt8) : eqD 4 (.bytes a) (.bytes b) = some (a == b) := rfl
theorem q_ts (a : List D) (b : Str) : eqD 4 (.tup a) (.str b) = some false := rfl
/-! calls -/
theorem isB (F : Str → List D → R D) (fns : List Str) (G : Str → Option D) (B : List Str) (sc : Scope) (f : Str) (ds : List D) (h : B.contains f = true) : callD ⟨F, fns, G, B, sc⟩ f ds = builtinD f ds := by
  show (if B.contains f = true then _ else _) = _
  rw [if_pos h]
theorem isF (F : Str → List D → R D) (fns : List Str) (G : Str → Option D) (B : List Str) (sc : Scope) (f : Str) (ds : List D) (h : B.contains f = false) : callD ⟨F, fns, G, B, sc⟩ f ds = F f ds := by
  show (if B.contains f = true then _ else _) = _
  rw [h]
  rfl
theorem k_len (d : D) : builtinD (Str.ofString "len") [d] = lenD d := rfl
theorem k_bytes (d : D) : builtinD (Str.ofString "bytes") [d] = bytesD d := by
  unfold builtinD
  rw [if_neg (by rw [str_eq]; decide), if_pos rfl]
  rfl
theorem k_type (d : D) : builtinD (Str.ofString "type") [d] = typD d := by
  unfold builtinD
  rw [if_neg (by rw [str_eq]; decide), if_neg (by rw [str_eq]; decide), if_pos rfl]
  rfl
theorem len_b (l : List UInt8) (h : l.length ≤ line) : lenD (.bytes l) = .ok (.int l.length) := by
  show (if _ then _ else _) = _
  rw [if_pos h]
theorem len_t (l : List D) (h : l.length ≤ line) : lenD (.tup l) = .ok (.int l.length) := by
  show (if _ then _ else _) = _
  rw [if_pos h]
theorem len_l (l : List D) (h : l.length ≤ line) : lenD (.lst l) = .ok (.int l.length) := by
  show (if _ then _ else _) = _
  rw [if_pos h]
theorem len_s (l : Str) (h : l.length ≤ line) : lenD (.str l) = .ok (.int l.length) := by
  show (if _ then _ else _) = _
  rw [if_pos h]

/-! tests -/
noncomputable def notR (b : Bool) : R Bool := .ok !b
theorem t_not (x : Expr) (p : Pos) : evT C (n + 1) s (.UnaryOp .Not x p) = (evT C n s x).bind notR := rfl
theorem notR_t : notR true = .ok false := rfl
theorem notR_f : notR false = .ok true := rfl
theorem t_bool (op : BoolOp) (vs : List Expr) (p : Pos) : evT C (n + 1) s (.BoolOp op vs p) = evTs C n s op vs := rfl
noncomputable def andO (r : R Bool) (C : Cfg) (n : Nat) (s : PS) (es : List Expr) : R Bool := r.bind fun b => if b then evTs C n s .And es else .ok false
noncomputable def orO (r : R Bool) (C : Cfg) (n : Nat) (s : PS) (es : List Expr) : R Bool := r.bind fun b => if b then .ok true else evTs C n s .Or es
theorem ts_andN : evTs C (n + 1) s .And [] = .ok true := rfl
theorem ts_orN : evTs C (n + 1) s .Or [] = .ok false := rfl
theorem ts_and (e : Expr) (r : List Expr) : evTs C (n + 1) s .And (e :: r) = andO (evT C n s e) C n s r := rfl
theorem ts_or (e : Expr) (r : List Expr) : evTs C (n + 1) s .Or (e :: r) = orO (evT C n s e) C n s r := rfl
theorem andO_t (es : List Expr) : andO (.ok true) C n s es = evTs C n s .And es := rfl
theorem andO_f (es : List Expr) : andO (.ok false) C n s es = .ok false := rfl
theorem orO_t (es : List Expr) : orO (.ok true) C n s es = .ok true := rfl
theorem orO_f (es : List Expr) : orO (.ok false) C n s es = evTs C n s .Or es := rfl
theorem t_cmp (l : Expr) (ops : List CmpOp) (cs : List Expr) (p : Pos) (h : lastMarks ops cs = false) : evT C (n + 1) s (.Compare l ops cs p) = (evE C n s l).bind fun a => evChain C n s a ops cs := by
  show (if lastMarks ops cs = true then _ else _) = _
  rw [h]
  rfl
theorem ch_one (a : D) (op : CmpOp) (r : Expr) : evChain C n s a [op] [r] = (evE C n s r).bind fun b => cmpD op a b := by unfold evChain; rfl
noncomputable def chO (t : R Bool) (C : Cfg) (n : Nat) (s : PS) (b : D) (ops : List CmpOp) (rs : List Expr) : R Bool := t.bind fun t => if t then evChain C n s b ops rs else .ok false
theorem ch_two (a : D) (op op' : CmpOp) (ops : List CmpOp) (r r' : Expr) (rs : List Expr) : evChain C n s a (op :: op' :: ops) (r :: r' :: rs) = (evE C n s r).bind fun b => chO (cmpD op a b) C n s b (op' :: ops) (r' :: rs) := by rw [evChain]; rfl
theorem chO_t (b : D) (ops : List CmpOp) (rs : List Expr) : chO (.ok true) C n s b ops rs = evChain C n s b ops rs := rfl
theorem chO_f (b : D) (ops : List CmpOp) (rs : List Expr) : chO (.ok false) C n s b ops rs = .ok false := rfl
theorem t_name (x : Str) (p : Pos) : evT C (n + 1) s (.Name x p) = (nameD C s x).bind boolD := rfl
theorem t_call (f : Str) (q p : Pos) (args : List Expr) : evT C (n + 1) s (.Call (.Name f q) args [] p) = (evE C n s (.Call (.Name f q) args [] p)).bind boolD := rfl
theorem boolD_b (b : Bool) : boolD (.bool b) = .ok b := rfl

/-! statements -/
noncomputable def seqO (o : Out) (C : Cfg) (n : Nat) (r : List Stmt) : Out := match o with | .next s => execs C n s r | o => o
theorem ss_nil : execs C (n + 1) s [] = .next s := rfl
theorem ss_cons (st : Stmt) (r : List Stmt) : execs C (n + 1) s (st :: r) = seqO (exec C n s st) C n r := rfl
theorem seq_next (r : List Stmt) : seqO (.next s) C n r = execs C n s r := rfl
theorem seq_ret (d : D) (r : List Stmt) : seqO (.ret d) C n r = .ret d := rfl
theorem seq_raise (r : List Stmt) : seqO .raise C n r = .raise := rfl
noncomputable def ifO (t : R Bool) (C : Cfg) (n : Nat) (s : PS) (b o : List Stmt) : Out := Out.ofB t fun c => if c then execs C n s b else execs C n s o
theorem s_if (t : Expr) (b o : List Stmt) (p : Pos) : exec C (n + 1) s (.If t b o p) = ifO (evT C n s t) C n s b o := rfl
theorem ifO_t (b o : List Stmt) : ifO (.ok true) C n s b o = execs C n s b := rfl
theorem ifO_f (b o : List Stmt) : ifO (.ok false) C n s b o = execs C n s o := rfl
noncomputable def retO (r : R D) : Out := Out.ofR r .ret
theorem s_ret (e : Expr) (p : Pos) : exec C (n + 1) s (.Return (some e) p) = retO (evE C n s e) := rfl
theorem retO_ok (d : D) : retO (.ok d) = .ret d := rfl
theorem asgO_raise (t : Expr) : asgO .raise C s t = .raise := rfl
theorem asgO_ok (d : D) (t : Expr) : asgO (.ok d) C s t = Out.ofS (assignD C s t d) := rfl
theorem ofS_some : Out.ofS (some s) = .next s := rfl
noncomputable def notList : Expr → Bool
  | .List _ _ => false
  | _ => true
theorem s_asgNm (x : Str) (p q : Pos) (y : Str) (r : Pos) : exec C (n + 1) s (.Assign [.Name x p] (.Name y r) q) = asgO (evE C n s (.Name y r)) C s (.Name x p) := rfl
theorem s_asgC (x : Str) (p q : Pos) (c : Const) (k : Nat) (r : Pos) : exec C (n + 1) s (.Assign [.Name x p] (.Constant c k r) q) = asgO (evE C n s (.Constant c k r)) C s (.Name x p) := rfl
theorem s_asgB (x : Str) (p q : Pos) (a b : Expr) (o : Operator) (r : Pos) : exec C (n + 1) s (.Assign [.Name x p] (.BinOp a o b r) q) = asgO (evE C n s (.BinOp a o b r)) C s (.Name x p) := rfl
theorem s_asgK (x : Str) (p q : Pos) (f : Expr) (as : List Expr) (ks : List Keyword) (r : Pos) : exec C (n + 1) s (.Assign [.Name x p] (.Call f as ks r) q) = asgO (evE C n s (.Call f as ks r)) C s (.Name x p) := rfl
theorem s_asgTp (x : Str) (p q : Pos) (es : List Expr) (k : Nat) (r : Pos) : exec C (n + 1) s (.Assign [.Name x p] (.Tuple es k r) q) = asgO (evE C n s (.Tuple es k r)) C s (.Name x p) := rfl
theorem s_asgU (x : Str) (p q : Pos) (a : Expr) (o : UnaryOp) (r : Pos) : exec C (n + 1) s (.Assign [.Name x p] (.UnaryOp o a r) q) = asgO (evE C n s (.UnaryOp o a r)) C s (.Name x p) := rfl
theorem s_asgS (x : Str) (p q : Pos) (a b : Expr) (r : Pos) : exec C (n + 1) s (.Assign [.Name x p] (.Subscript a b r) q) = asgO (evE C n s (.Subscript a b r)) C s (.Name x p) := rfl
theorem s_asgT (ts : List Expr) (k : Nat) (p q : Pos) (e : Expr) (h : notTup e = true) : exec C (n + 1) s (.Assign [.Tuple ts k p] e q) = asgO (evE C n s e) C s (.Tuple ts k p) := by
  show (if notTup e = true then _ else _) = _
  rw [if_pos h]
theorem a_name (x : Str) (p : Pos) (d : D) (h : localName C x = true) : assignD C s (.Name x p) d = s.set x d := by
  show (if localName C x = true then _ else _) = _
  rw [if_pos h]
theorem a_tup (ts : List Expr) (k : Nat) (p : Pos) (ds : List D) : assignD C s (.Tuple ts k p) (.tup ds) = storeDs C s ts ds := rfl
noncomputable def stO (o : Option PS) (C : Cfg) (ts : List Expr) (ds : List D) : Option PS := o.bind fun s => storeDs C s ts ds
theorem st_nil : storeDs C s [] [] = some s := rfl
theorem st_cons (x : Str) (p : Pos) (ts : List Expr) (d : D) (ds : List D) (h : localName C x = true) : storeDs C s (.Name x p :: ts) (d :: ds) = stO (s.set x d) C ts ds := by
  show (storeD C s (.Name x p) d).bind _ = _
  unfold storeD
  dsimp only
  rw [if_pos h]
  rfl
theorem stO_some (ts : List Expr) (ds : List D) : stO (some s) C ts ds = storeDs C s ts ds := rfl
theorem s_own (x : Str) (p q r : Pos) (es : List Expr) (h : localName C x = true) : exec C (n + 1) s (.Assign [.Name x p] (.List es q) r) = ownO (evEs C n s es) s x := by
  show (if localName C x = true then _ else _) = _
  rw [if_pos h]
theorem ownO_ok (rho : List (Str × D)) (ds : List D) (x : Str) (h : D.noLists ds = true ∧ ds.length ≤ 1000) : ownO (.ok ds) ⟨rho, none⟩ x = .next ⟨rho.filter (fun p => !(p.1 == x)), some (x, ds)⟩ := by
  show (if D.noLists ds = true ∧ ds.length ≤ 1000 then _ else _) = _
  rw [if_pos h]
theorem s_app (x : String) (a : Expr) (p ap cp q : Pos) (rho : List (Str × D)) (ds : List D) (h : (localName C (Str.ofString x) && notStar a && (ap.endLine == cp.line) && !(decide (x = "__debug__"))) = true) (hl : ds.length ≤ 1000000) :
    exec C (n + 1) ⟨rho, some (Str.ofString x, ds)⟩ (.Expr (.Call (.Attribute (.Name (Str.ofString x) p) (Str.ofString "append") ap) [a] [] cp) q) = appO (evE C n ⟨rho, some (Str.ofString x, ds)⟩ a) ⟨rho, some (Str.ofString x, ds)⟩ (Str.ofString x) ds := by
  simp only [Bool.and_eq_true, Bool.not_eq_true', decide_eq_false_iff_not] at h
  show (if _ then _ else _) = _
  rw [if_pos ⟨rfl, h.1.1.1, h.1.1.2, h.1.2, by rw [str_eq]; exact h.2⟩]
  show (if _ then _ else _) = _
  rw [if_pos ⟨rfl, hl⟩]
theorem appO_ok (rho : List (Str × D)) (x : Str) (ds es : List D) (d : D) (h : d.noList = true) : appO (.ok d) ⟨rho, some (x, es)⟩ x ds = .next ⟨rho, some (x, ds ++ [d])⟩ := by
  show (if d.noList = true then _ else _) = _
  rw [if_pos h]
theorem s_raise (x : Str) (a : Expr) (p q r : Pos) (h : (isVE C x && notStar a) = true) : exec C (n + 1) s (.Raise (some (.Call (.Name x p) [a] [] q)) none r) = rsO (evE C n s a) := by
  show (if (isVE C x && notStar a) = true then _ else _) = _
  rw [if_pos h]
theorem rsO_str (x : Str) : rsO (.ok (.str x)) = .raise := rfl
theorem s_try (x y v : Str) (p p2 p3 p4 p5 p6 p7 p8 : Pos) (e : Expr) (c : Const) (k : Nat) (h : isVE C v = true) :
    exec C (n + 1) s (.Try [.Assign [.Name x p] e p2] [.ExceptHandler (some (.Name v p3)) none [.Assign [.Name y p4] (.Constant c k p5) p6] p7] [] [] p8) = tryO (evE C n s e) C s (.Name x p) (.Name y p4) c := by
  show (if isVE C v = true then _ else _) = _
  rw [if_pos h]
theorem tryO_ok (d : D) (t t' : Expr) (c : Const) : tryO (.ok d) C s t t' c = Out.ofS (assignD C s t d) := rfl
theorem tryO_raise (t t' : Expr) (c : Const) : tryO .raise C s t t' c = asgO (constD c) C s t' := rfl

/-! loops -/
noncomputable def forO (C : Cfg) (n : Nat) (t : Expr) (b : List Stmt) (ds : List D) (s : PS) : Out := forP C t (fun s => execs C n s b) ds s
noncomputable def forR (r : R (List D)) (C : Cfg) (n : Nat) (t : Expr) (b : List Stmt) (s : PS) : Out := match r with
  | .ok ds => forO C n t b ds s
  | .raise => .raise
  | .stuck => .stuck
theorem s_for (t it : Expr) (b : List Stmt) (p : Pos) : exec C (n + 1) s (.For t it b [] p) = forR (iterD C n s it) C n t b s := rfl
theorem forR_ok (ds : List D) (t : Expr) (b : List Stmt) : forR (.ok ds) C n t b s = forO C n t b ds s := rfl
noncomputable def forA (o : Option PS) (C : Cfg) (n : Nat) (t : Expr) (b : List Stmt) (ds : List D) : Out := match o with
  | none => .stuck
  | some s => match execs C n s b with
    | .next s => forO C n t b ds s
    | o => o
noncomputable def forB (o : Out) (C : Cfg) (n : Nat) (t : Expr) (b : List Stmt) (ds : List D) : Out := match o with
  | .next s => forO C n t b ds s
  | o => o
theorem for_nil (t : Expr) (b : List Stmt) : forO C n t b [] s = .next s := rfl
theorem for_cons (t : Expr) (b : List Stmt) (d : D) (ds : List D) : forO C n t b (d :: ds) s = forA (assignD C s t d) C n t b ds := rfl
theorem forA_some (t : Expr) (b : List Stmt) (ds : List D) : forA (some s) C n t b ds = forB (execs C n s b) C n t b ds := rfl
theorem forB_next (t : Expr) (b : List Stmt) (ds : List D) : forB (.next s) C n t b ds = forO C n t b ds s := rfl
theorem forB_raise (t : Expr) (b : List Stmt) (ds : List D) : forB .raise C n t b ds = .raise := rfl
noncomputable def whO (C : Cfg) (n : Nat) (t : Expr) (b : List Stmt) (k : Nat) (s : PS) : Out := whileP (fun s => evT C n s t) (fun s => execs C n s b) k s
noncomputable def whT (r : R Bool) (C : Cfg) (n : Nat) (t : Expr) (b : List Stmt) (k : Nat) (s : PS) : Out := Out.ofB r fun c => if c then (match execs C n s b with | .next s => whO C n t b k s | o => o) else .next s
noncomputable def whB (o : Out) (C : Cfg) (n : Nat) (t : Expr) (b : List Stmt) (k : Nat) : Out := match o with | .next s => whO C n t b k s | o => o
theorem s_while (t : Expr) (b : List Stmt) (p : Pos) : exec C (n + 1) s (.While t b [] p) = whO C n t b 500 s := by
  rw [show exec C (n + 1) s (.While t b [] p) = whO C n t b 500 s from rfl]
theorem wh_step (t : Expr) (b : List Stmt) (k : Nat) : whO C n t b (k + 1) s = whT (evT C n s t) C n t b k s := by
  rw [show whO C n t b (k + 1) s = whT (evT C n s t) C n t b k s from rfl]
theorem s_whk {k : Nat} (h : k + 5 = 500) (t : Expr) (b : List Stmt) (p : Pos) : exec C (n + 1) s (.While t b [] p) = whO C n t b (k + 5) s := by
  rw [h, s_while]
theorem whT_t (t : Expr) (b : List Stmt) (k : Nat) : whT (.ok true) C n t b k s = whB (execs C n s b) C n t b k := by
  rw [show whT (.ok true) C n t b k s = whB (execs C n s b) C n t b k from rfl]
theorem whT_f (t : Expr) (b : List Stmt) (k : Nat) : whT (.ok false) C n t b k s = .next s := by
  rw [show whT (.ok false) C n t b k s = .next s from rfl]
theorem whB_next (t : Expr) (b : List Stmt) (k : Nat) : whB (.next s) C n t b k = whO C n t b k s := by
  rw [show whB (.next s) C n t b k = whO C n t b k s from rfl]
theorem whB_raise (t : Expr) (b : List Stmt) (k : Nat) : whB .raise C n t b k = .raise := by
  rw [show whB .raise C n t b k = .raise from rfl]

/-! what a for goes over -/
theorem i_name (x : Str) (p : Pos) : iterD C n s (.Name x p) = (nameD C s x).bind (itN C s x) := rfl
theorem itN_l (rho : List (Str × D)) (x : Str) (ds : List D) (h : localName C x = true) : itN C ⟨rho, none⟩ x (.lst ds) = .ok ds := by
  show (if localName C x = true then _ else _) = _
  rw [if_pos h]
theorem itN_o (rho : List (Str × D)) (x y : String) (ds es : List D) (h : (localName C (Str.ofString x) && !(decide (y = x))) = true) : itN C ⟨rho, some (Str.ofString y, es)⟩ (Str.ofString x) (.lst ds) = .ok ds := by
  simp only [Bool.and_eq_true, Bool.not_eq_true', decide_eq_false_iff_not] at h
  show (if localName C (Str.ofString x) = true then _ else _) = _
  rw [if_pos h.1]
  show (if _ then _ else _) = _
  rw [if_neg (by rw [str_eq]; exact h.2)]
theorem itN_t (x : Str) (ds : List D) (h : D.noLists ds = true) : itN C s x (.tup ds) = .ok ds := by
  show (if D.noLists ds = true then _ else _) = _
  rw [if_pos h]
theorem itN_s (x y : Str) (h : (y.cps.all (· < 128)) = true) : itN C s x (.str y) = .ok (textSigns y) := by
  show (if _ then _ else _) = _
  rw [if_pos h]
theorem i_range (q p : Pos) (a : Expr) (h : (C.kind (Str.ofString "range") == some .globalImplicit && C.B.contains (Str.ofString "range") && notStar a) = true) : iterD C n s (.Call (.Name (Str.ofString "range") q) [a] [] p) = (evE C n s a).bind itR := by
  simp only [Bool.and_eq_true, beq_iff_eq] at h
  show (if _ then _ else _) = _
  rw [if_pos ⟨rfl, h.1.1, h.1.2, h.2⟩]
theorem itR_int (i : Int) (h : -1000 ≤ i ∧ i ≤ 1000) : itR (.int i) = .ok (rangeD i) := by
  show (if _ then _ else _) = _
  rw [if_pos h]
theorem i_sub (v i : Expr) (p : Pos) : iterD C n s (.Subscript v i p) = (evE C n s (.Subscript v i p)).bind itS := rfl
theorem itS_t (ds : List D) (h : D.noLists ds = true) : itS (.tup ds) = .ok ds := by
  show (if _ then _ else _) = _
  rw [if_pos h]
end

/-! checks of names -/
/-! checks of forms -/
theorem lm_one (op : CmpOp) (e : Expr) : lastMarks [op] [e] = behindInMarks op e := by simp only [lastMarks]
theorem lm_two (a b : CmpOp) (ops : List CmpOp) (c d : Expr) (es : List Expr) : lastMarks (a :: b :: ops) (c :: d :: es) = lastMarks (b :: ops) (d :: es) := by simp only [lastMarks]
theorem ns_nil : noStars [] = true := by simp only [noStars, List.all_cons, List.all_nil]
theorem ns_cons (e : Expr) (r : List Expr) : noStars (e :: r) = (notStar e && noStars r) := by simp only [noStars, List.all_cons, List.all_nil]
theorem bm_Name (op : CmpOp) (x : Str) (p : Pos) : behindInMarks op (.Name x p) = false := by simp only [behindInMarks]
theorem ns_Name (x : Str) (p : Pos) : notStar (.Name x p) = true := by simp only [notStar]
theorem nt_Name (x : Str) (p : Pos) : notTup (.Name x p) = true := by simp only [notTup]
theorem bm_Constant (op : CmpOp) (c : Const) (k : Nat) (p : Pos) : behindInMarks op (.Constant c k p) = false := by simp only [behindInMarks]
theorem ns_Constant (c : Const) (k : Nat) (p : Pos) : notStar (.Constant c k p) = true := by simp only [notStar]
theorem bm_BinOp (op : CmpOp) (l : Expr) (o : Operator) (r : Expr) (p : Pos) : behindInMarks op (.BinOp l o r p) = false := by simp only [behindInMarks]
theorem ns_BinOp (l : Expr) (o : Operator) (r : Expr) (p : Pos) : notStar (.BinOp l o r p) = true := by simp only [notStar]
theorem ns_Call (f : Expr) (a : List Expr) (k : List Keyword) (p : Pos) : notStar (.Call f a k p) = true := by simp only [notStar]
theorem bm_Tuple (op : CmpOp) (es : List Expr) (k : Nat) (p : Pos) : behindInMarks op (.Tuple es k p) = false := by simp only [behindInMarks]
theorem ns_Tuple (es : List Expr) (k : Nat) (p : Pos) : notStar (.Tuple es k p) = true := by simp only [notStar]
theorem bm_Subscript (op : CmpOp) (v i : Expr) (p : Pos) : behindInMarks op (.Subscript v i p) = false := by simp only [behindInMarks]
theorem ns_Subscript (v i : Expr) (p : Pos) : notStar (.Subscript v i p) = true := by simp only [notStar]
theorem bm_List (op : CmpOp) (es : List Expr) (p : Pos) : behindInMarks op (.List es p) = false := by simp only [behindInMarks]
theorem ns_List (es : List Expr) (p : Pos) : notStar (.List es p) = true := by simp only [notStar]
/-! more of data -/
theorem nl_int (i : Int) : D.noList (.int i) = true := by simp only [D.noList]
theorem nl_bytes (l : List UInt8) : D.noList (.bytes l) = true := by simp only [D.noList]
theorem nl_str (l : Str) : D.noList (.str l) = true := by simp only [D.noList]
theorem nl_none : D.noList .none = true := by simp only [D.noList]
theorem nl_tup (ds : List D) : D.noList (.tup ds) = D.noLists ds := by simp only [D.noList]
theorem nls_nil : D.noLists [] = true := by simp only [D.noLists]
theorem nls_cons (d : D) (ds : List D) : D.noLists (d :: ds) = (d.noList && D.noLists ds) := by simp only [D.noLists]
theorem m_isT (a b : String) : cmpD .Is (.typ a) (.typ b) = .ok (a == b) := rfl
theorem m_isN : cmpD .Is .none .none = .ok true := rfl
theorem m_isI (i : Int) : cmpD .Is (.int i) .none = .ok false := rfl
theorem m_notin (i : Int) (ds : List D) : cmpD .NotIn (.int i) (.tup ds) = (inT i ds).bind notR := rfl
theorem m_inS (x y : Str) : cmpD .In (.str y) (.str x) = .ok (Txt.contains x y) := rfl
noncomputable def byte (n : Int) : UInt8 := n.toNat.toUInt8
noncomputable def bytR (o : Option (List UInt8)) : R D := match o with | some l => .ok (.bytes l) | none => .stuck
theorem bytesD_l (ds : List D) (h : ds.length ≤ line) : bytesD (.lst ds) = bytR (byteInts ds) := by
  show (if ds.length ≤ line then _ else _) = _
  rw [if_pos h]
  rfl
theorem bytR_some (l : List UInt8) : bytR (some l) = .ok (.bytes l) := rfl
theorem by_nil : byteInts [] = some [] := rfl
theorem by_cons (i : Int) (r : List D) (h : 0 ≤ i ∧ i < 256) : byteInts (.int i :: r) = (byteInts r).map (byte i :: ·) := by
  show (if _ then _ else _) = _
  rw [if_pos h]
  rfl
noncomputable def rd (l : List UInt8) (j : Nat) : Int := (l.getD j 0).toNat
theorem x_bytes (l : List UInt8) (i : Int) (h : 0 ≤ i ∧ i < l.length ∧ l.length ≤ line) : idxD (.bytes l) (.int i) = .ok (.int (rd l i.toNat)) := by
  show (if _ then _ else _) = _
  rw [if_pos ⟨h.1, h.2.2⟩, List.getElem?_eq_getElem (by (first | lia | omega))]
  simp [rd, List.getD_eq_getElem?_getD, List.getElem?_eq_getElem (show i.toNat < l.length by (first | lia | omega))]
noncomputable def idxR (o : Option D) : R D := match o with | some d => .ok d | none => .stuck
theorem idxR_some (d : D) : idxR (some d) = .ok d := rfl
theorem x_tup (ds : List D) (i : Int) (h : 0 ≤ i ∧ i < 1000000) : idxD (.tup ds) (.int i) = idxR ds[i.toNat]? := by
  show (if _ then _ else _) = _
  rw [if_pos h]
  rfl
theorem x_lst (ds : List D) (i : Int) (h : 0 ≤ i ∧ i < 1000000) : idxD (.lst ds) (.int i) = idxR ds[i.toNat]? := by
  show (if _ then _ else _) = _
  rw [if_pos h]
  rfl
theorem cut_b (l : List UInt8) (lo hi : Option Int) (h : l.length ≤ line) : cutD (.bytes l) lo hi = .ok (.bytes (cut l lo hi)) := by
  show (if _ then _ else _) = _
  rw [if_pos h]
theorem cut_l (l : List D) (lo hi : Option Int) (h : l.length ≤ 1000000) : cutD (.lst l) lo hi = .ok (.lst (cut l lo hi)) := by
  show (if _ then _ else _) = _
  rw [if_pos h]
theorem outR_ret (d : D) : outR (.ret d) = .ok d := rfl
theorem outR_raise : outR .raise = .raise := rfl

/-- a def of the program's, called -/
theorem Fk_at {P : Pg} {k : Nat} {x : Str} {ds : List D} (f : Fn) (h0 : P.nat.lookup x = none) (h1 : P.tbl.find? (fun d => decide (Fn.name d = x)) = some f) (h2 : ds.length = f.xs.length ∧ 1 ≤ ds.length) :
    Fk P (k + 1) x ds = outR (execs ⟨Fk P k, P.fns, P.G, P.B, f.scope⟩ 100 ⟨f.xs.zip ds, none⟩ f.body) := by
  show (match P.nat.lookup x with | some g => g ds | none => match P.tbl.find? (fun d => decide (Fn.name d = x)) with
      | some d => if ds.length = d.xs.length ∧ 1 ≤ ds.length then outR (execs ⟨Fk P k, P.fns, P.G, P.B, d.scope⟩ 100 ⟨d.xs.zip ds, none⟩ d.body) else .stuck
      | none => .stuck) = _
  rw [h0, h1]
  dsimp only
  rw [if_pos h2]

theorem e_join (C : Cfg) (n : Nat) (s : PS) (k : Nat) (q ap p : Pos) (x : Str) (xp : Pos) (h : (ap.endLine == p.line) = true) :
    evE C (n + 3) s (.Call (.Attribute (.Constant (.bytes []) k q) (Str.ofString "join") ap) [.Name x xp] [] p) = (evE C (n + 1) s (.Name x xp)).bind (joinD) := by
  show (if (true && true && (ap.endLine == p.line) && decide (([.Name x xp] : List Expr).length < 30)) = true then _ else _) = _
  rw [h, if_pos (by rfl)]
  show R.bind (R.ok (D.bytes [])) _ = _
  rw [bind_ok]
  show (if methOk (.bytes []) (Str.ofString "join") 1 = true then _ else _) = _
  rw [if_pos (by show ((Str.ofString "join" == Str.ofString "join") && _) = true; rw [beq_self_eq_true]; rfl), es_cons]
  show ((nameD C s x).bind fun d => R.ok [d]).bind _ = (nameD C s x).bind _
  cases nameD C s x <;> rfl
theorem j_ok (ds : List D) (ls : List (List UInt8)) (h : allBytes ds = some ls) (h2 : ds ≠ [] ∧ ds.length ≤ 1000 ∧ ls.flatten.length ≤ line) : joinD (.lst ds) = .ok (.bytes ls.flatten) := by
  show (match allBytes ds with | some ls => _ | none => _) = _
  rw [h]
  dsimp only
  rw [if_pos h2]
theorem all_map (ls : List (List UInt8)) : allBytes (ls.map D.bytes) = some ls := by
  induction ls with
  | nil => rfl
  | cons a r ih => show (allBytes (r.map D.bytes)).map _ = _; rw [ih]; rfl
theorem lp_hit (rho : List (Str × D)) (x : Str) (v : D) : look (put rho x v) x = some v := by rw [look_put, if_pos rfl]
theorem lp_miss (rho : List (Str × D)) (a b : String) (v : D) (h : (a == b) = false) : look (put rho (Str.ofString a) v) (Str.ofString b) = look rho (Str.ofString b) := by
  rw [look_put, if_neg (by rw [str_eq]; simpa using h)]
noncomputable def stAt (f : Fn) (j : Nat) : Stmt := f.body.getD j (.Pass ⟨0, 0, 0, 0⟩)
noncomputable def forTg : Stmt → Expr
  | .For t _ _ _ _ => t
  | _ => .Name (Str.ofString "") ⟨0, 0, 0, 0⟩
noncomputable def forBd : Stmt → List Stmt
  | .For _ _ b _ _ => b
  | .While _ b _ _ => b
  | _ => []
noncomputable def whTs : Stmt → Expr
  | .While t _ _ _ => t
  | _ => .Name (Str.ofString "") ⟨0, 0, 0, 0⟩
end
end Mine
namespace Mine
section
open PySem

/-! law 1: the program in the plain -/
noncomputable def P1 : Program := PySem.Challenge.pw_sx_r050_1o
noncomputable def tabAt (p : Program) (i : Nat) : D :=
  match p.main.body[i]? with
  | some (.Assign _ (.Tuple es _ _) _) => .tup (es.map fun e => match e with | .Constant (.int i) _ _ => .int i | .Constant (.str x) _ _ => .str x | _ => .none)
  | _ => .none
noncomputable def B1 : List Str := [Str.ofString "len", Str.ofString "bytes", Str.ofString "type", Str.ofString "min", Str.ofString "max", Str.ofString "range", Str.ofString "ValueError", Str.ofString "str"]
noncomputable def G1 (x : Str) : Option D := List.lookup x [(Str.ofString "tuple", D.typ "tuple"), (Str.ofString "list", D.typ "list"), (Str.ofString "int", D.typ "int"), (Str.ofString "bytes", D.typ "bytes"),
  (Str.ofString "_law_CHANNELS", tabAt P1 14), (Str.ofString "_law_RATES", tabAt P1 15), (Str.ofString "_law_BITS", tabAt P1 16), (Str.ofString "_law_SHAPES", tabAt P1 17)]
noncomputable def lawBytes : List D → R D
  | [.int seed, .int size] => if 0 ≤ size ∧ size ≤ 1000 then .ok (.bytes ((List.range size.toNat).map fun (i : Nat) => byte ((seed + 37 * (i : Int)) % 256))) else .stuck
  | _ => .stuck
noncomputable def idx1 : List Nat := [1, 2, 4, 5, 7, 8, 9, 11, 12, 18, 19, 20, 21, 23, 24, 25, 26, 27, 28, 29, 30, 31, 32, 33, 34, 35]
noncomputable def Q1 : Pg where
  tbl := idx1.map (fnAt P1)
  nat := [(Str.ofString "_law_bytes", lawBytes)]
  fns := (fnAt P1 22).name :: idx1.map fun i => (fnAt P1 i).name
  G := G1
  B := B1

theorem nat_Q1 (x : String) : Q1.nat.lookup (Str.ofString x) = if x = "_law_bytes" then some lawBytes else none := by
  show List.lookup _ [(Str.ofString "_law_bytes", lawBytes)] = _
  rw [lk_cons, lk_nil]
theorem fnd1_1 : Q1.tbl.find? (fun d => decide (d.name = Str.ofString "_write_uint")) = some (fnAt P1 1) := by kernel_rfl
theorem fnd1_2 : Q1.tbl.find? (fun d => decide (d.name = Str.ofString "_read_uint")) = some (fnAt P1 2) := by kernel_rfl
theorem fnd1_4 : Q1.tbl.find? (fun d => decide (d.name = Str.ofString "write_chunks")) = some (fnAt P1 4) := by kernel_rfl
theorem fnd1_5 : Q1.tbl.find? (fun d => decide (d.name = Str.ofString "read_chunks")) = some (fnAt P1 5) := by kernel_rfl
theorem fnd1_7 : Q1.tbl.find? (fun d => decide (d.name = Str.ofString "_format_ok")) = some (fnAt P1 7) := by kernel_rfl
theorem fnd1_8 : Q1.tbl.find? (fun d => decide (d.name = Str.ofString "write_format")) = some (fnAt P1 8) := by kernel_rfl
theorem fnd1_9 : Q1.tbl.find? (fun d => decide (d.name = Str.ofString "read_format")) = some (fnAt P1 9) := by kernel_rfl
theorem fnd1_11 : Q1.tbl.find? (fun d => decide (d.name = Str.ofString "write_wav")) = some (fnAt P1 11) := by kernel_rfl
theorem fnd1_12 : Q1.tbl.find? (fun d => decide (d.name = Str.ofString "read_wav")) = some (fnAt P1 12) := by kernel_rfl
theorem fnd1_18 : Q1.tbl.find? (fun d => decide (d.name = Str.ofString "_law_pick")) = some (fnAt P1 18) := by kernel_rfl
theorem fnd1_19 : Q1.tbl.find? (fun d => decide (d.name = Str.ofString "_law_name")) = some (fnAt P1 19) := by kernel_rfl
theorem fnd1_20 : Q1.tbl.find? (fun d => decide (d.name = Str.ofString "_law_two")) = some (fnAt P1 20) := by kernel_rfl
theorem fnd1_21 : Q1.tbl.find? (fun d => decide (d.name = Str.ofString "_law_four")) = some (fnAt P1 21) := by kernel_rfl
theorem fnd1_23 : Q1.tbl.find? (fun d => decide (d.name = Str.ofString "_law_turned")) = some (fnAt P1 23) := by kernel_rfl
theorem fnd1_24 : Q1.tbl.find? (fun d => decide (d.name = Str.ofString "_law_place")) = some (fnAt P1 24) := by kernel_rfl
theorem fnd1_25 : Q1.tbl.find? (fun d => decide (d.name = Str.ofString "_law_plain")) = some (fnAt P1 25) := by kernel_rfl
theorem fnd1_26 : Q1.tbl.find? (fun d => decide (d.name = Str.ofString "_law_sound_ok")) = some (fnAt P1 26) := by kernel_rfl
theorem fnd1_27 : Q1.tbl.find? (fun d => decide (d.name = Str.ofString "_law_fits")) = some (fnAt P1 27) := by kernel_rfl
theorem fnd1_28 : Q1.tbl.find? (fun d => decide (d.name = Str.ofString "_law_save")) = some (fnAt P1 28) := by kernel_rfl
theorem fnd1_29 : Q1.tbl.find? (fun d => decide (d.name = Str.ofString "_law_open")) = some (fnAt P1 29) := by kernel_rfl
theorem fnd1_30 : Q1.tbl.find? (fun d => decide (d.name = Str.ofString "_law_join")) = some (fnAt P1 30) := by kernel_rfl
theorem fnd1_31 : Q1.tbl.find? (fun d => decide (d.name = Str.ofString "_law_split")) = some (fnAt P1 31) := by kernel_rfl
theorem fnd1_32 : Q1.tbl.find? (fun d => decide (d.name = Str.ofString "_law_typed")) = some (fnAt P1 32) := by kernel_rfl
theorem fnd1_33 : Q1.tbl.find? (fun d => decide (d.name = Str.ofString "_law_parts_typed")) = some (fnAt P1 33) := by kernel_rfl
theorem fnd1_34 : Q1.tbl.find? (fun d => decide (d.name = Str.ofString "_law_chunks")) = some (fnAt P1 34) := by kernel_rfl
theorem fnd1_35 : Q1.tbl.find? (fun d => decide (d.name = Str.ofString "law")) = some (fnAt P1 35) := by kernel_rfl
noncomputable def fns1 : List Str := [Str.ofString "_law_bytes", Str.ofString "_write_uint", Str.ofString "_read_uint", Str.ofString "write_chunks", Str.ofString "read_chunks", Str.ofString "_format_ok", Str.ofString "write_format", Str.ofString "read_format", Str.ofString "write_wav", Str.ofString "read_wav", Str.ofString "_law_pick", Str.ofString "_law_name", Str.ofString "_law_two", Str.ofString "_law_four", Str.ofString "_law_turned", Str.ofString "_law_place", Str.ofString "_law_plain", Str.ofString "_law_sound_ok", Str.ofString "_law_fits", Str.ofString "_law_save", Str.ofString "_law_open", Str.ofString "_law_join", Str.ofString "_law_split", Str.ofString "_law_typed", Str.ofString "_law_parts_typed", Str.ofString "_law_chunks", Str.ofString "law"]
theorem G1_at (x : String) : G1 (Str.ofString x) = if x = "tuple" then some (D.typ "tuple") else if x = "list" then some (D.typ "list") else if x = "int" then some (D.typ "int") else if x = "bytes" then some (D.typ "bytes") else if x = "_law_CHANNELS" then some (tabAt P1 14) else if x = "_law_RATES" then some (tabAt P1 15) else if x = "_law_BITS" then some (tabAt P1 16) else if x = "_law_SHAPES" then some (tabAt P1 17) else none := by
  simp only [G1, lk_cons, lk_nil]
end
end Mine
namespace Mine
section
open PySem
theorem sh0 (v0 : D) (r : List (Str × D)) : look ((Str.ofString "value", v0) :: r) (Str.ofString "value") = some v0 := rfl
theorem sh1 (v0 v1 : D) (r : List (Str × D)) : look ((Str.ofString "value", v0) :: (Str.ofString "size", v1) :: r) (Str.ofString "size") = some v1 := rfl
theorem sh2 (v0 v1 v2 : D) (r : List (Str × D)) : look ((Str.ofString "value", v0) :: (Str.ofString "size", v1) :: (Str.ofString "rest", v2) :: r) (Str.ofString "rest") = some v2 := rfl
theorem sh3 (v0 v1 d : D) : put ((Str.ofString "value", v0) :: (Str.ofString "size", v1) :: []) (Str.ofString "rest") d = (Str.ofString "value", v0) :: (Str.ofString "size", v1) :: (Str.ofString "rest", d) :: [] := rfl
theorem sh4 (v0 v1 v2 d : D) : put ((Str.ofString "value", v0) :: (Str.ofString "size", v1) :: (Str.ofString "rest", v2) :: []) (Str.ofString "_") d = (Str.ofString "value", v0) :: (Str.ofString "size", v1) :: (Str.ofString "rest", v2) :: (Str.ofString "_", d) :: [] := rfl
theorem sh5 (v0 v1 v2 d : D) (r : List (Str × D)) : put ((Str.ofString "value", v0) :: (Str.ofString "size", v1) :: (Str.ofString "rest", v2) :: r) (Str.ofString "rest") d = (Str.ofString "value", v0) :: (Str.ofString "size", v1) :: (Str.ofString "rest", d) :: r := rfl
theorem sh6 (v0 v1 v2 v3 d : D) (r : List (Str × D)) : put ((Str.ofString "value", v0) :: (Str.ofString "size", v1) :: (Str.ofString "rest", v2) :: (Str.ofString "_", v3) :: r) (Str.ofString "_") d = (Str.ofString "value", v0) :: (Str.ofString "size", v1) :: (Str.ofString "rest", v2) :: (Str.ofString "_", d) :: r := rfl
theorem sh7 (v0 v1 : D) : List.filter (fun (p : Str × D) => !(p.1 == (Str.ofString "out"))) ((Str.ofString "value", v0) :: (Str.ofString "size", v1) :: []) = (Str.ofString "value", v0) :: (Str.ofString "size", v1) :: [] := rfl
theorem sh8 (rho : List (Str × D)) (ds : List D) : PS.get ⟨rho, some ((Str.ofString "out"), ds)⟩ (Str.ofString "out") = some (.lst ds) := rfl
theorem sh9 (rho : List (Str × D)) (ds : List D) : PS.get ⟨rho, some ((Str.ofString "out"), ds)⟩ (Str.ofString "rest") = look rho (Str.ofString "rest") := rfl
theorem sh10 (rho : List (Str × D)) (ds : List D) : PS.get ⟨rho, some ((Str.ofString "out"), ds)⟩ (Str.ofString "size") = look rho (Str.ofString "size") := rfl
theorem sh11 (rho : List (Str × D)) (ds : List D) : PS.get ⟨rho, some ((Str.ofString "out"), ds)⟩ (Str.ofString "value") = look rho (Str.ofString "value") := rfl
theorem sh12 (rho : List (Str × D)) (ds : List D) (d : D) (h : d.noList = true) : PS.set ⟨rho, some ((Str.ofString "out"), ds)⟩ (Str.ofString "_") d = some ⟨put rho (Str.ofString "_") d, some ((Str.ofString "out"), ds)⟩ := by
  rw [show PS.set ⟨rho, some ((Str.ofString "out"), ds)⟩ (Str.ofString "_") d = if d.noList = true then some ⟨put rho (Str.ofString "_") d, some ((Str.ofString "out"), ds)⟩ else none from rfl, if_pos h]
theorem sh13 (rho : List (Str × D)) (ds : List D) (d : D) (h : d.noList = true) : PS.set ⟨rho, some ((Str.ofString "out"), ds)⟩ (Str.ofString "rest") d = some ⟨put rho (Str.ofString "rest") d, some ((Str.ofString "out"), ds)⟩ := by
  rw [show PS.set ⟨rho, some ((Str.ofString "out"), ds)⟩ (Str.ofString "rest") d = if d.noList = true then some ⟨put rho (Str.ofString "rest") d, some ((Str.ofString "out"), ds)⟩ else none from rfl, if_pos h]
theorem sh14 (v0 : D) (r : List (Str × D)) : look ((Str.ofString "data", v0) :: r) (Str.ofString "data") = some v0 := rfl
theorem sh15 (v0 v1 : D) (r : List (Str × D)) : look ((Str.ofString "data", v0) :: (Str.ofString "start", v1) :: r) (Str.ofString "start") = some v1 := rfl
theorem sh16 (v0 v1 v2 : D) (r : List (Str × D)) : look ((Str.ofString "data", v0) :: (Str.ofString "start", v1) :: (Str.ofString "size", v2) :: r) (Str.ofString "size") = some v2 := rfl
theorem sh17 (v0 v1 v2 v3 : D) (r : List (Str × D)) : look ((Str.ofString "data", v0) :: (Str.ofString "start", v1) :: (Str.ofString "size", v2) :: (Str.ofString "total", v3) :: r) (Str.ofString "total") = some v3 := rfl
theorem sh18 (v0 v1 v2 v3 v4 : D) (r : List (Str × D)) : look ((Str.ofString "data", v0) :: (Str.ofString "start", v1) :: (Str.ofString "size", v2) :: (Str.ofString "total", v3) :: (Str.ofString "i", v4) :: r) (Str.ofString "i") = some v4 := rfl
theorem sh19 (v0 v1 v2 d : D) : put ((Str.ofString "data", v0) :: (Str.ofString "start", v1) :: (Str.ofString "size", v2) :: []) (Str.ofString "total") d = (Str.ofString "data", v0) :: (Str.ofString "start", v1) :: (Str.ofString "size", v2) :: (Str.ofString "total", d) :: [] := rfl
theorem sh20 (v0 v1 v2 v3 d : D) : put ((Str.ofString "data", v0) :: (Str.ofString "start", v1) :: (Str.ofString "size", v2) :: (Str.ofString "total", v3) :: []) (Str.ofString "i") d = (Str.ofString "data", v0) :: (Str.ofString "start", v1) :: (Str.ofString "size", v2) :: (Str.ofString "total", v3) :: (Str.ofString "i", d) :: [] := rfl
theorem sh21 (v0 v1 v2 v3 d : D) (r : List (Str × D)) : put ((Str.ofString "data", v0) :: (Str.ofString "start", v1) :: (Str.ofString "size", v2) :: (Str.ofString "total", v3) :: r) (Str.ofString "total") d = (Str.ofString "data", v0) :: (Str.ofString "start", v1) :: (Str.ofString "size", v2) :: (Str.ofString "total", d) :: r := rfl
theorem sh22 (v0 v1 v2 v3 v4 d : D) (r : List (Str × D)) : put ((Str.ofString "data", v0) :: (Str.ofString "start", v1) :: (Str.ofString "size", v2) :: (Str.ofString "total", v3) :: (Str.ofString "i", v4) :: r) (Str.ofString "i") d = (Str.ofString "data", v0) :: (Str.ofString "start", v1) :: (Str.ofString "size", v2) :: (Str.ofString "total", v3) :: (Str.ofString "i", d) :: r := rfl
theorem sh23 (v0 : D) (r : List (Str × D)) : look ((Str.ofString "chunks", v0) :: r) (Str.ofString "chunks") = some v0 := rfl
theorem sh24 (v0 v1 : D) (r : List (Str × D)) : look ((Str.ofString "chunks", v0) :: (Str.ofString "total", v1) :: r) (Str.ofString "total") = some v1 := rfl
theorem sh26 (v0 v1 v2 : D) (r : List (Str × D)) : look ((Str.ofString "chunks", v0) :: (Str.ofString "total", v1) :: (Str.ofString "name", v2) :: r) (Str.ofString "name") = some v2 := rfl
theorem sh27 (v0 v1 v2 v3 : D) (r : List (Str × D)) : look ((Str.ofString "chunks", v0) :: (Str.ofString "total", v1) :: (Str.ofString "name", v2) :: (Str.ofString "body", v3) :: r) (Str.ofString "body") = some v3 := rfl
theorem sh28 (v0 v1 v2 v3 v4 : D) (r : List (Str × D)) : look ((Str.ofString "chunks", v0) :: (Str.ofString "total", v1) :: (Str.ofString "name", v2) :: (Str.ofString "body", v3) :: (Str.ofString "size", v4) :: r) (Str.ofString "size") = some v4 := rfl
theorem sh29 (v0 v1 v2 v3 v4 v5 : D) (r : List (Str × D)) : look ((Str.ofString "chunks", v0) :: (Str.ofString "total", v1) :: (Str.ofString "name", v2) :: (Str.ofString "body", v3) :: (Str.ofString "size", v4) :: (Str.ofString "pad", v5) :: r) (Str.ofString "pad") = some v5 := rfl
theorem sh31 (v0 d : D) : put ((Str.ofString "chunks", v0) :: []) (Str.ofString "total") d = (Str.ofString "chunks", v0) :: (Str.ofString "total", d) :: [] := rfl
theorem sh33 (v0 v1 d : D) : put ((Str.ofString "chunks", v0) :: (Str.ofString "total", v1) :: []) (Str.ofString "name") d = (Str.ofString "chunks", v0) :: (Str.ofString "total", v1) :: (Str.ofString "name", d) :: [] := rfl
theorem sh34 (v0 v1 d : D) (r : List (Str × D)) : put ((Str.ofString "chunks", v0) :: (Str.ofString "total", v1) :: r) (Str.ofString "total") d = (Str.ofString "chunks", v0) :: (Str.ofString "total", d) :: r := rfl
theorem sh35 (v0 v1 v2 d : D) : put ((Str.ofString "chunks", v0) :: (Str.ofString "total", v1) :: (Str.ofString "name", v2) :: []) (Str.ofString "body") d = (Str.ofString "chunks", v0) :: (Str.ofString "total", v1) :: (Str.ofString "name", v2) :: (Str.ofString "body", d) :: [] := rfl
theorem sh36 (v0 v1 v2 d : D) (r : List (Str × D)) : put ((Str.ofString "chunks", v0) :: (Str.ofString "total", v1) :: (Str.ofString "name", v2) :: r) (Str.ofString "name") d = (Str.ofString "chunks", v0) :: (Str.ofString "total", v1) :: (Str.ofString "name", d) :: r := rfl
theorem sh37 (v0 v1 v2 v3 d : D) (r : List (Str × D)) : put ((Str.ofString "chunks", v0) :: (Str.ofString "total", v1) :: (Str.ofString "name", v2) :: (Str.ofString "body", v3) :: r) (Str.ofString "body") d = (Str.ofString "chunks", v0) :: (Str.ofString "total", v1) :: (Str.ofString "name", v2) :: (Str.ofString "body", d) :: r := rfl
theorem sh38 (v0 v1 v2 v3 d : D) : put ((Str.ofString "chunks", v0) :: (Str.ofString "total", v1) :: (Str.ofString "name", v2) :: (Str.ofString "body", v3) :: []) (Str.ofString "size") d = (Str.ofString "chunks", v0) :: (Str.ofString "total", v1) :: (Str.ofString "name", v2) :: (Str.ofString "body", v3) :: (Str.ofString "size", d) :: [] := rfl
theorem sh39 (v0 v1 v2 v3 v4 d : D) : put ((Str.ofString "chunks", v0) :: (Str.ofString "total", v1) :: (Str.ofString "name", v2) :: (Str.ofString "body", v3) :: (Str.ofString "size", v4) :: []) (Str.ofString "pad") d = (Str.ofString "chunks", v0) :: (Str.ofString "total", v1) :: (Str.ofString "name", v2) :: (Str.ofString "body", v3) :: (Str.ofString "size", v4) :: (Str.ofString "pad", d) :: [] := rfl
theorem sh40 (v0 v1 v2 v3 v4 d : D) (r : List (Str × D)) : put ((Str.ofString "chunks", v0) :: (Str.ofString "total", v1) :: (Str.ofString "name", v2) :: (Str.ofString "body", v3) :: (Str.ofString "size", v4) :: r) (Str.ofString "size") d = (Str.ofString "chunks", v0) :: (Str.ofString "total", v1) :: (Str.ofString "name", v2) :: (Str.ofString "body", v3) :: (Str.ofString "size", d) :: r := rfl
theorem sh42 (v0 v1 v2 v3 v4 v5 d : D) (r : List (Str × D)) : put ((Str.ofString "chunks", v0) :: (Str.ofString "total", v1) :: (Str.ofString "name", v2) :: (Str.ofString "body", v3) :: (Str.ofString "size", v4) :: (Str.ofString "pad", v5) :: r) (Str.ofString "pad") d = (Str.ofString "chunks", v0) :: (Str.ofString "total", v1) :: (Str.ofString "name", v2) :: (Str.ofString "body", v3) :: (Str.ofString "size", v4) :: (Str.ofString "pad", d) :: r := rfl
theorem sh43 (v0 : D) : List.filter (fun (p : Str × D) => !(p.1 == (Str.ofString "parts"))) ((Str.ofString "chunks", v0) :: []) = (Str.ofString "chunks", v0) :: [] := rfl
theorem sh44 (rho : List (Str × D)) (ds : List D) : PS.get ⟨rho, some ((Str.ofString "parts"), ds)⟩ (Str.ofString "body") = look rho (Str.ofString "body") := rfl
theorem sh45 (rho : List (Str × D)) (ds : List D) : PS.get ⟨rho, some ((Str.ofString "parts"), ds)⟩ (Str.ofString "chunks") = look rho (Str.ofString "chunks") := rfl
theorem sh46 (rho : List (Str × D)) (ds : List D) : PS.get ⟨rho, some ((Str.ofString "parts"), ds)⟩ (Str.ofString "inner") = look rho (Str.ofString "inner") := rfl
theorem sh47 (rho : List (Str × D)) (ds : List D) : PS.get ⟨rho, some ((Str.ofString "parts"), ds)⟩ (Str.ofString "name") = look rho (Str.ofString "name") := rfl
theorem sh48 (rho : List (Str × D)) (ds : List D) : PS.get ⟨rho, some ((Str.ofString "parts"), ds)⟩ (Str.ofString "pad") = look rho (Str.ofString "pad") := rfl
theorem sh49 (rho : List (Str × D)) (ds : List D) : PS.get ⟨rho, some ((Str.ofString "parts"), ds)⟩ (Str.ofString "parts") = some (.lst ds) := rfl
theorem sh50 (rho : List (Str × D)) (ds : List D) : PS.get ⟨rho, some ((Str.ofString "parts"), ds)⟩ (Str.ofString "size") = look rho (Str.ofString "size") := rfl
theorem sh51 (rho : List (Str × D)) (ds : List D) : PS.get ⟨rho, some ((Str.ofString "parts"), ds)⟩ (Str.ofString "total") = look rho (Str.ofString "total") := rfl
theorem sh52 (rho : List (Str × D)) (ds : List D) (d : D) (h : d.noList = true) : PS.set ⟨rho, some ((Str.ofString "parts"), ds)⟩ (Str.ofString "body") d = some ⟨put rho (Str.ofString "body") d, some ((Str.ofString "parts"), ds)⟩ := by
  rw [show PS.set ⟨rho, some ((Str.ofString "parts"), ds)⟩ (Str.ofString "body") d = if d.noList = true then some ⟨put rho (Str.ofString "body") d, some ((Str.ofString "parts"), ds)⟩ else none from rfl, if_pos h]
theorem sh53 (rho : List (Str × D)) (ds : List D) (d : D) (h : d.noList = true) : PS.set ⟨rho, some ((Str.ofString "parts"), ds)⟩ (Str.ofString "inner") d = some ⟨put rho (Str.ofString "inner") d, some ((Str.ofString "parts"), ds)⟩ := by
  rw [show PS.set ⟨rho, some ((Str.ofString "parts"), ds)⟩ (Str.ofString "inner") d = if d.noList = true then some ⟨put rho (Str.ofString "inner") d, some ((Str.ofString "parts"), ds)⟩ else none from rfl, if_pos h]
theorem sh54 (rho : List (Str × D)) (ds : List D) (d : D) (h : d.noList = true) : PS.set ⟨rho, some ((Str.ofString "parts"), ds)⟩ (Str.ofString "name") d = some ⟨put rho (Str.ofString "name") d, some ((Str.ofString "parts"), ds)⟩ := by
  rw [show PS.set ⟨rho, some ((Str.ofString "parts"), ds)⟩ (Str.ofString "name") d = if d.noList = true then some ⟨put rho (Str.ofString "name") d, some ((Str.ofString "parts"), ds)⟩ else none from rfl, if_pos h]
theorem sh55 (rho : List (Str × D)) (ds : List D) (d : D) (h : d.noList = true) : PS.set ⟨rho, some ((Str.ofString "parts"), ds)⟩ (Str.ofString "pad") d = some ⟨put rho (Str.ofString "pad") d, some ((Str.ofString "parts"), ds)⟩ := by
  rw [show PS.set ⟨rho, some ((Str.ofString "parts"), ds)⟩ (Str.ofString "pad") d = if d.noList = true then some ⟨put rho (Str.ofString "pad") d, some ((Str.ofString "parts"), ds)⟩ else none from rfl, if_pos h]
theorem sh56 (rho : List (Str × D)) (ds : List D) (d : D) (h : d.noList = true) : PS.set ⟨rho, some ((Str.ofString "parts"), ds)⟩ (Str.ofString "size") d = some ⟨put rho (Str.ofString "size") d, some ((Str.ofString "parts"), ds)⟩ := by
  rw [show PS.set ⟨rho, some ((Str.ofString "parts"), ds)⟩ (Str.ofString "size") d = if d.noList = true then some ⟨put rho (Str.ofString "size") d, some ((Str.ofString "parts"), ds)⟩ else none from rfl, if_pos h]
theorem sh57 (rho : List (Str × D)) (ds : List D) (d : D) (h : d.noList = true) : PS.set ⟨rho, some ((Str.ofString "parts"), ds)⟩ (Str.ofString "total") d = some ⟨put rho (Str.ofString "total") d, some ((Str.ofString "parts"), ds)⟩ := by
  rw [show PS.set ⟨rho, some ((Str.ofString "parts"), ds)⟩ (Str.ofString "total") d = if d.noList = true then some ⟨put rho (Str.ofString "total") d, some ((Str.ofString "parts"), ds)⟩ else none from rfl, if_pos h]
theorem sh58 (v0 v1 : D) (r : List (Str × D)) : look ((Str.ofString "data", v0) :: (Str.ofString "length", v1) :: r) (Str.ofString "length") = some v1 := rfl
theorem sh59 (v0 v1 v2 : D) (r : List (Str × D)) : look ((Str.ofString "data", v0) :: (Str.ofString "length", v1) :: (Str.ofString "pos", v2) :: r) (Str.ofString "pos") = some v2 := rfl
theorem sh60 (v0 v1 v2 v3 : D) (r : List (Str × D)) : look ((Str.ofString "data", v0) :: (Str.ofString "length", v1) :: (Str.ofString "pos", v2) :: (Str.ofString "rest", v3) :: r) (Str.ofString "rest") = some v3 := rfl
theorem sh61 (v0 v1 v2 v3 v4 : D) (r : List (Str × D)) : look ((Str.ofString "data", v0) :: (Str.ofString "length", v1) :: (Str.ofString "pos", v2) :: (Str.ofString "rest", v3) :: (Str.ofString "size", v4) :: r) (Str.ofString "size") = some v4 := rfl
theorem sh62 (v0 v1 v2 v3 v4 v5 : D) (r : List (Str × D)) : look ((Str.ofString "data", v0) :: (Str.ofString "length", v1) :: (Str.ofString "pos", v2) :: (Str.ofString "rest", v3) :: (Str.ofString "size", v4) :: (Str.ofString "pad", v5) :: r) (Str.ofString "pad") = some v5 := rfl
theorem sh63 (v0 d : D) : put ((Str.ofString "data", v0) :: []) (Str.ofString "length") d = (Str.ofString "data", v0) :: (Str.ofString "length", d) :: [] := rfl
theorem sh64 (v0 v1 d : D) : put ((Str.ofString "data", v0) :: (Str.ofString "length", v1) :: []) (Str.ofString "pos") d = (Str.ofString "data", v0) :: (Str.ofString "length", v1) :: (Str.ofString "pos", d) :: [] := rfl
theorem sh65 (v0 v1 v2 d : D) (r : List (Str × D)) : put ((Str.ofString "data", v0) :: (Str.ofString "length", v1) :: (Str.ofString "pos", v2) :: r) (Str.ofString "pos") d = (Str.ofString "data", v0) :: (Str.ofString "length", v1) :: (Str.ofString "pos", d) :: r := rfl
theorem sh66 (v0 v1 v2 d : D) : put ((Str.ofString "data", v0) :: (Str.ofString "length", v1) :: (Str.ofString "pos", v2) :: []) (Str.ofString "rest") d = (Str.ofString "data", v0) :: (Str.ofString "length", v1) :: (Str.ofString "pos", v2) :: (Str.ofString "rest", d) :: [] := rfl
theorem sh67 (v0 v1 v2 v3 d : D) (r : List (Str × D)) : put ((Str.ofString "data", v0) :: (Str.ofString "length", v1) :: (Str.ofString "pos", v2) :: (Str.ofString "rest", v3) :: r) (Str.ofString "rest") d = (Str.ofString "data", v0) :: (Str.ofString "length", v1) :: (Str.ofString "pos", v2) :: (Str.ofString "rest", d) :: r := rfl
theorem sh68 (v0 v1 v2 v3 d : D) : put ((Str.ofString "data", v0) :: (Str.ofString "length", v1) :: (Str.ofString "pos", v2) :: (Str.ofString "rest", v3) :: []) (Str.ofString "size") d = (Str.ofString "data", v0) :: (Str.ofString "length", v1) :: (Str.ofString "pos", v2) :: (Str.ofString "rest", v3) :: (Str.ofString "size", d) :: [] := rfl
theorem sh69 (v0 v1 v2 v3 v4 d : D) : put ((Str.ofString "data", v0) :: (Str.ofString "length", v1) :: (Str.ofString "pos", v2) :: (Str.ofString "rest", v3) :: (Str.ofString "size", v4) :: []) (Str.ofString "pad") d = (Str.ofString "data", v0) :: (Str.ofString "length", v1) :: (Str.ofString "pos", v2) :: (Str.ofString "rest", v3) :: (Str.ofString "size", v4) :: (Str.ofString "pad", d) :: [] := rfl
theorem sh70 (v0 v1 v2 v3 v4 d : D) (r : List (Str × D)) : put ((Str.ofString "data", v0) :: (Str.ofString "length", v1) :: (Str.ofString "pos", v2) :: (Str.ofString "rest", v3) :: (Str.ofString "size", v4) :: r) (Str.ofString "size") d = (Str.ofString "data", v0) :: (Str.ofString "length", v1) :: (Str.ofString "pos", v2) :: (Str.ofString "rest", v3) :: (Str.ofString "size", d) :: r := rfl
theorem sh71 (v0 v1 v2 v3 v4 v5 d : D) (r : List (Str × D)) : put ((Str.ofString "data", v0) :: (Str.ofString "length", v1) :: (Str.ofString "pos", v2) :: (Str.ofString "rest", v3) :: (Str.ofString "size", v4) :: (Str.ofString "pad", v5) :: r) (Str.ofString "pad") d = (Str.ofString "data", v0) :: (Str.ofString "length", v1) :: (Str.ofString "pos", v2) :: (Str.ofString "rest", v3) :: (Str.ofString "size", v4) :: (Str.ofString "pad", d) :: r := rfl
theorem sh72 (v0 v1 : D) : List.filter (fun (p : Str × D) => !(p.1 == (Str.ofString "out"))) ((Str.ofString "data", v0) :: (Str.ofString "length", v1) :: []) = (Str.ofString "data", v0) :: (Str.ofString "length", v1) :: [] := rfl
theorem sh73 (rho : List (Str × D)) (ds : List D) : PS.get ⟨rho, some ((Str.ofString "out"), ds)⟩ (Str.ofString "data") = look rho (Str.ofString "data") := rfl
theorem sh74 (rho : List (Str × D)) (ds : List D) : PS.get ⟨rho, some ((Str.ofString "out"), ds)⟩ (Str.ofString "length") = look rho (Str.ofString "length") := rfl
theorem sh75 (rho : List (Str × D)) (ds : List D) : PS.get ⟨rho, some ((Str.ofString "out"), ds)⟩ (Str.ofString "pad") = look rho (Str.ofString "pad") := rfl
theorem sh76 (rho : List (Str × D)) (ds : List D) : PS.get ⟨rho, some ((Str.ofString "out"), ds)⟩ (Str.ofString "pos") = look rho (Str.ofString "pos") := rfl
theorem sh77 (rho : List (Str × D)) (ds : List D) (d : D) (h : d.noList = true) : PS.set ⟨rho, some ((Str.ofString "out"), ds)⟩ (Str.ofString "pad") d = some ⟨put rho (Str.ofString "pad") d, some ((Str.ofString "out"), ds)⟩ := by
  rw [show PS.set ⟨rho, some ((Str.ofString "out"), ds)⟩ (Str.ofString "pad") d = if d.noList = true then some ⟨put rho (Str.ofString "pad") d, some ((Str.ofString "out"), ds)⟩ else none from rfl, if_pos h]
theorem sh78 (rho : List (Str × D)) (ds : List D) (d : D) (h : d.noList = true) : PS.set ⟨rho, some ((Str.ofString "out"), ds)⟩ (Str.ofString "pos") d = some ⟨put rho (Str.ofString "pos") d, some ((Str.ofString "out"), ds)⟩ := by
  rw [show PS.set ⟨rho, some ((Str.ofString "out"), ds)⟩ (Str.ofString "pos") d = if d.noList = true then some ⟨put rho (Str.ofString "pos") d, some ((Str.ofString "out"), ds)⟩ else none from rfl, if_pos h]
theorem sh79 (rho : List (Str × D)) (ds : List D) (d : D) (h : d.noList = true) : PS.set ⟨rho, some ((Str.ofString "out"), ds)⟩ (Str.ofString "size") d = some ⟨put rho (Str.ofString "size") d, some ((Str.ofString "out"), ds)⟩ := by
  rw [show PS.set ⟨rho, some ((Str.ofString "out"), ds)⟩ (Str.ofString "size") d = if d.noList = true then some ⟨put rho (Str.ofString "size") d, some ((Str.ofString "out"), ds)⟩ else none from rfl, if_pos h]
theorem sh80 (v0 : D) (r : List (Str × D)) : look ((Str.ofString "sound", v0) :: r) (Str.ofString "sound") = some v0 := rfl
theorem sh81 (v0 v1 : D) (r : List (Str × D)) : look ((Str.ofString "sound", v0) :: (Str.ofString "channels", v1) :: r) (Str.ofString "channels") = some v1 := rfl
theorem sh82 (v0 v1 v2 : D) (r : List (Str × D)) : look ((Str.ofString "sound", v0) :: (Str.ofString "channels", v1) :: (Str.ofString "rate", v2) :: r) (Str.ofString "rate") = some v2 := rfl
theorem sh83 (v0 v1 v2 v3 : D) (r : List (Str × D)) : look ((Str.ofString "sound", v0) :: (Str.ofString "channels", v1) :: (Str.ofString "rate", v2) :: (Str.ofString "bits", v3) :: r) (Str.ofString "bits") = some v3 := rfl
theorem sh84 (v0 v1 v2 v3 v4 : D) (r : List (Str × D)) : look ((Str.ofString "sound", v0) :: (Str.ofString "channels", v1) :: (Str.ofString "rate", v2) :: (Str.ofString "bits", v3) :: (Str.ofString "frame", v4) :: r) (Str.ofString "frame") = some v4 := rfl
theorem sh85 (v0 d : D) : put ((Str.ofString "sound", v0) :: []) (Str.ofString "channels") d = (Str.ofString "sound", v0) :: (Str.ofString "channels", d) :: [] := rfl
theorem sh86 (v0 v1 d : D) : put ((Str.ofString "sound", v0) :: (Str.ofString "channels", v1) :: []) (Str.ofString "rate") d = (Str.ofString "sound", v0) :: (Str.ofString "channels", v1) :: (Str.ofString "rate", d) :: [] := rfl
theorem sh87 (v0 v1 v2 d : D) : put ((Str.ofString "sound", v0) :: (Str.ofString "channels", v1) :: (Str.ofString "rate", v2) :: []) (Str.ofString "bits") d = (Str.ofString "sound", v0) :: (Str.ofString "channels", v1) :: (Str.ofString "rate", v2) :: (Str.ofString "bits", d) :: [] := rfl
theorem sh88 (v0 v1 v2 v3 d : D) : put ((Str.ofString "sound", v0) :: (Str.ofString "channels", v1) :: (Str.ofString "rate", v2) :: (Str.ofString "bits", v3) :: []) (Str.ofString "frame") d = (Str.ofString "sound", v0) :: (Str.ofString "channels", v1) :: (Str.ofString "rate", v2) :: (Str.ofString "bits", v3) :: (Str.ofString "frame", d) :: [] := rfl
theorem sh89 (v0 : D) (r : List (Str × D)) : look ((Str.ofString "body", v0) :: r) (Str.ofString "body") = some v0 := rfl
theorem sh90 (v0 v1 : D) (r : List (Str × D)) : look ((Str.ofString "body", v0) :: (Str.ofString "kind", v1) :: r) (Str.ofString "kind") = some v1 := rfl
theorem sh91 (v0 v1 v2 : D) (r : List (Str × D)) : look ((Str.ofString "body", v0) :: (Str.ofString "kind", v1) :: (Str.ofString "channels", v2) :: r) (Str.ofString "channels") = some v2 := rfl
theorem sh92 (v0 v1 v2 v3 : D) (r : List (Str × D)) : look ((Str.ofString "body", v0) :: (Str.ofString "kind", v1) :: (Str.ofString "channels", v2) :: (Str.ofString "rate", v3) :: r) (Str.ofString "rate") = some v3 := rfl
theorem sh93 (v0 v1 v2 v3 v4 : D) (r : List (Str × D)) : look ((Str.ofString "body", v0) :: (Str.ofString "kind", v1) :: (Str.ofString "channels", v2) :: (Str.ofString "rate", v3) :: (Str.ofString "byte_rate", v4) :: r) (Str.ofString "byte_rate") = some v4 := rfl
theorem sh94 (v0 v1 v2 v3 v4 v5 : D) (r : List (Str × D)) : look ((Str.ofString "body", v0) :: (Str.ofString "kind", v1) :: (Str.ofString "channels", v2) :: (Str.ofString "rate", v3) :: (Str.ofString "byte_rate", v4) :: (Str.ofString "frame", v5) :: r) (Str.ofString "frame") = some v5 := rfl
theorem sh95 (v0 v1 v2 v3 v4 v5 v6 : D) (r : List (Str × D)) : look ((Str.ofString "body", v0) :: (Str.ofString "kind", v1) :: (Str.ofString "channels", v2) :: (Str.ofString "rate", v3) :: (Str.ofString "byte_rate", v4) :: (Str.ofString "frame", v5) :: (Str.ofString "bits", v6) :: r) (Str.ofString "bits") = some v6 := rfl
theorem sh96 (v0 d : D) : put ((Str.ofString "body", v0) :: []) (Str.ofString "kind") d = (Str.ofString "body", v0) :: (Str.ofString "kind", d) :: [] := rfl
theorem sh97 (v0 v1 d : D) : put ((Str.ofString "body", v0) :: (Str.ofString "kind", v1) :: []) (Str.ofString "channels") d = (Str.ofString "body", v0) :: (Str.ofString "kind", v1) :: (Str.ofString "channels", d) :: [] := rfl
theorem sh98 (v0 v1 v2 d : D) : put ((Str.ofString "body", v0) :: (Str.ofString "kind", v1) :: (Str.ofString "channels", v2) :: []) (Str.ofString "rate") d = (Str.ofString "body", v0) :: (Str.ofString "kind", v1) :: (Str.ofString "channels", v2) :: (Str.ofString "rate", d) :: [] := rfl
theorem sh99 (v0 v1 v2 v3 d : D) : put ((Str.ofString "body", v0) :: (Str.ofString "kind", v1) :: (Str.ofString "channels", v2) :: (Str.ofString "rate", v3) :: []) (Str.ofString "byte_rate") d = (Str.ofString "body", v0) :: (Str.ofString "kind", v1) :: (Str.ofString "channels", v2) :: (Str.ofString "rate", v3) :: (Str.ofString "byte_rate", d) :: [] := rfl
theorem sh100 (v0 v1 v2 v3 v4 d : D) : put ((Str.ofString "body", v0) :: (Str.ofString "kind", v1) :: (Str.ofString "channels", v2) :: (Str.ofString "rate", v3) :: (Str.ofString "byte_rate", v4) :: []) (Str.ofString "frame") d = (Str.ofString "body", v0) :: (Str.ofString "kind", v1) :: (Str.ofString "channels", v2) :: (Str.ofString "rate", v3) :: (Str.ofString "byte_rate", v4) :: (Str.ofString "frame", d) :: [] := rfl
theorem sh101 (v0 v1 v2 v3 v4 v5 d : D) : put ((Str.ofString "body", v0) :: (Str.ofString "kind", v1) :: (Str.ofString "channels", v2) :: (Str.ofString "rate", v3) :: (Str.ofString "byte_rate", v4) :: (Str.ofString "frame", v5) :: []) (Str.ofString "bits") d = (Str.ofString "body", v0) :: (Str.ofString "kind", v1) :: (Str.ofString "channels", v2) :: (Str.ofString "rate", v3) :: (Str.ofString "byte_rate", v4) :: (Str.ofString "frame", v5) :: (Str.ofString "bits", d) :: [] := rfl
theorem sh102 (v0 v1 : D) (r : List (Str × D)) : look ((Str.ofString "sound", v0) :: (Str.ofString "samples", v1) :: r) (Str.ofString "samples") = some v1 := rfl
theorem sh103 (v0 v1 v2 : D) (r : List (Str × D)) : look ((Str.ofString "sound", v0) :: (Str.ofString "samples", v1) :: (Str.ofString "fmt_body", v2) :: r) (Str.ofString "fmt_body") = some v2 := rfl
theorem sh104 (v0 v1 v2 v3 : D) (r : List (Str × D)) : look ((Str.ofString "sound", v0) :: (Str.ofString "samples", v1) :: (Str.ofString "fmt_body", v2) :: (Str.ofString "frame", v3) :: r) (Str.ofString "frame") = some v3 := rfl
theorem sh105 (v0 v1 d : D) : put ((Str.ofString "sound", v0) :: (Str.ofString "samples", v1) :: []) (Str.ofString "fmt_body") d = (Str.ofString "sound", v0) :: (Str.ofString "samples", v1) :: (Str.ofString "fmt_body", d) :: [] := rfl
theorem sh106 (v0 v1 v2 d : D) : put ((Str.ofString "sound", v0) :: (Str.ofString "samples", v1) :: (Str.ofString "fmt_body", v2) :: []) (Str.ofString "frame") d = (Str.ofString "sound", v0) :: (Str.ofString "samples", v1) :: (Str.ofString "fmt_body", v2) :: (Str.ofString "frame", d) :: [] := rfl
theorem sh107 (v0 v1 : D) (r : List (Str × D)) : look ((Str.ofString "data", v0) :: (Str.ofString "chunks", v1) :: r) (Str.ofString "chunks") = some v1 := rfl
theorem sh108 (v0 v1 v2 : D) (r : List (Str × D)) : look ((Str.ofString "data", v0) :: (Str.ofString "chunks", v1) :: (Str.ofString "fmt_body", v2) :: r) (Str.ofString "fmt_body") = some v2 := rfl
theorem sh110 (v0 v1 v2 v3 v4 : D) (r : List (Str × D)) : look ((Str.ofString "data", v0) :: (Str.ofString "chunks", v1) :: (Str.ofString "fmt_body", v2) :: (Str.ofString "data_body", v3) :: (Str.ofString "name", v4) :: r) (Str.ofString "name") = some v4 := rfl
theorem sh111 (v0 v1 v2 v3 v4 v5 : D) (r : List (Str × D)) : look ((Str.ofString "data", v0) :: (Str.ofString "chunks", v1) :: (Str.ofString "fmt_body", v2) :: (Str.ofString "data_body", v3) :: (Str.ofString "name", v4) :: (Str.ofString "body", v5) :: r) (Str.ofString "body") = some v5 := rfl
theorem sh116 (v0 d : D) : put ((Str.ofString "data", v0) :: []) (Str.ofString "chunks") d = (Str.ofString "data", v0) :: (Str.ofString "chunks", d) :: [] := rfl
theorem sh117 (v0 v1 d : D) : put ((Str.ofString "data", v0) :: (Str.ofString "chunks", v1) :: []) (Str.ofString "fmt_body") d = (Str.ofString "data", v0) :: (Str.ofString "chunks", v1) :: (Str.ofString "fmt_body", d) :: [] := rfl
theorem sh118 (v0 v1 v2 d : D) : put ((Str.ofString "data", v0) :: (Str.ofString "chunks", v1) :: (Str.ofString "fmt_body", v2) :: []) (Str.ofString "data_body") d = (Str.ofString "data", v0) :: (Str.ofString "chunks", v1) :: (Str.ofString "fmt_body", v2) :: (Str.ofString "data_body", d) :: [] := rfl
theorem sh119 (v0 v1 v2 d : D) (r : List (Str × D)) : put ((Str.ofString "data", v0) :: (Str.ofString "chunks", v1) :: (Str.ofString "fmt_body", v2) :: r) (Str.ofString "fmt_body") d = (Str.ofString "data", v0) :: (Str.ofString "chunks", v1) :: (Str.ofString "fmt_body", d) :: r := rfl
theorem sh120 (v0 v1 v2 v3 d : D) (r : List (Str × D)) : put ((Str.ofString "data", v0) :: (Str.ofString "chunks", v1) :: (Str.ofString "fmt_body", v2) :: (Str.ofString "data_body", v3) :: r) (Str.ofString "data_body") d = (Str.ofString "data", v0) :: (Str.ofString "chunks", v1) :: (Str.ofString "fmt_body", v2) :: (Str.ofString "data_body", d) :: r := rfl
theorem sh121 (v0 v1 v2 v3 d : D) : put ((Str.ofString "data", v0) :: (Str.ofString "chunks", v1) :: (Str.ofString "fmt_body", v2) :: (Str.ofString "data_body", v3) :: []) (Str.ofString "name") d = (Str.ofString "data", v0) :: (Str.ofString "chunks", v1) :: (Str.ofString "fmt_body", v2) :: (Str.ofString "data_body", v3) :: (Str.ofString "name", d) :: [] := rfl
theorem sh123 (v0 v1 v2 v3 v4 d : D) : put ((Str.ofString "data", v0) :: (Str.ofString "chunks", v1) :: (Str.ofString "fmt_body", v2) :: (Str.ofString "data_body", v3) :: (Str.ofString "name", v4) :: []) (Str.ofString "body") d = (Str.ofString "data", v0) :: (Str.ofString "chunks", v1) :: (Str.ofString "fmt_body", v2) :: (Str.ofString "data_body", v3) :: (Str.ofString "name", v4) :: (Str.ofString "body", d) :: [] := rfl
theorem sh124 (v0 v1 v2 v3 v4 d : D) (r : List (Str × D)) : put ((Str.ofString "data", v0) :: (Str.ofString "chunks", v1) :: (Str.ofString "fmt_body", v2) :: (Str.ofString "data_body", v3) :: (Str.ofString "name", v4) :: r) (Str.ofString "name") d = (Str.ofString "data", v0) :: (Str.ofString "chunks", v1) :: (Str.ofString "fmt_body", v2) :: (Str.ofString "data_body", v3) :: (Str.ofString "name", d) :: r := rfl
theorem sh125 (v0 v1 v2 v3 v4 v5 d : D) (r : List (Str × D)) : put ((Str.ofString "data", v0) :: (Str.ofString "chunks", v1) :: (Str.ofString "fmt_body", v2) :: (Str.ofString "data_body", v3) :: (Str.ofString "name", v4) :: (Str.ofString "body", v5) :: r) (Str.ofString "body") d = (Str.ofString "data", v0) :: (Str.ofString "chunks", v1) :: (Str.ofString "fmt_body", v2) :: (Str.ofString "data_body", v3) :: (Str.ofString "name", v4) :: (Str.ofString "body", d) :: r := rfl
theorem sh129 (v0 v1 : D) : List.filter (fun (p : Str × D) => !(p.1 == (Str.ofString "names"))) ((Str.ofString "data", v0) :: (Str.ofString "chunks", v1) :: []) = (Str.ofString "data", v0) :: (Str.ofString "chunks", v1) :: [] := rfl
theorem sh130 (rho : List (Str × D)) (ds : List D) : PS.get ⟨rho, some ((Str.ofString "names"), ds)⟩ (Str.ofString "body") = look rho (Str.ofString "body") := rfl
theorem sh131 (rho : List (Str × D)) (ds : List D) : PS.get ⟨rho, some ((Str.ofString "names"), ds)⟩ (Str.ofString "chunks") = look rho (Str.ofString "chunks") := rfl
theorem sh132 (rho : List (Str × D)) (ds : List D) : PS.get ⟨rho, some ((Str.ofString "names"), ds)⟩ (Str.ofString "data_body") = look rho (Str.ofString "data_body") := rfl
theorem sh133 (rho : List (Str × D)) (ds : List D) : PS.get ⟨rho, some ((Str.ofString "names"), ds)⟩ (Str.ofString "fmt_body") = look rho (Str.ofString "fmt_body") := rfl
theorem sh134 (rho : List (Str × D)) (ds : List D) : PS.get ⟨rho, some ((Str.ofString "names"), ds)⟩ (Str.ofString "frame") = look rho (Str.ofString "frame") := rfl
theorem sh135 (rho : List (Str × D)) (ds : List D) : PS.get ⟨rho, some ((Str.ofString "names"), ds)⟩ (Str.ofString "name") = look rho (Str.ofString "name") := rfl
theorem sh136 (rho : List (Str × D)) (ds : List D) : PS.get ⟨rho, some ((Str.ofString "names"), ds)⟩ (Str.ofString "names") = some (.lst ds) := rfl
theorem sh137 (rho : List (Str × D)) (ds : List D) : PS.get ⟨rho, some ((Str.ofString "names"), ds)⟩ (Str.ofString "sound") = look rho (Str.ofString "sound") := rfl
theorem sh138 (rho : List (Str × D)) (ds : List D) (d : D) (h : d.noList = true) : PS.set ⟨rho, some ((Str.ofString "names"), ds)⟩ (Str.ofString "body") d = some ⟨put rho (Str.ofString "body") d, some ((Str.ofString "names"), ds)⟩ := by
  rw [show PS.set ⟨rho, some ((Str.ofString "names"), ds)⟩ (Str.ofString "body") d = if d.noList = true then some ⟨put rho (Str.ofString "body") d, some ((Str.ofString "names"), ds)⟩ else none from rfl, if_pos h]
theorem sh139 (rho : List (Str × D)) (ds : List D) (d : D) (h : d.noList = true) : PS.set ⟨rho, some ((Str.ofString "names"), ds)⟩ (Str.ofString "data_body") d = some ⟨put rho (Str.ofString "data_body") d, some ((Str.ofString "names"), ds)⟩ := by
  rw [show PS.set ⟨rho, some ((Str.ofString "names"), ds)⟩ (Str.ofString "data_body") d = if d.noList = true then some ⟨put rho (Str.ofString "data_body") d, some ((Str.ofString "names"), ds)⟩ else none from rfl, if_pos h]
theorem sh140 (rho : List (Str × D)) (ds : List D) (d : D) (h : d.noList = true) : PS.set ⟨rho, some ((Str.ofString "names"), ds)⟩ (Str.ofString "fmt_body") d = some ⟨put rho (Str.ofString "fmt_body") d, some ((Str.ofString "names"), ds)⟩ := by
  rw [show PS.set ⟨rho, some ((Str.ofString "names"), ds)⟩ (Str.ofString "fmt_body") d = if d.noList = true then some ⟨put rho (Str.ofString "fmt_body") d, some ((Str.ofString "names"), ds)⟩ else none from rfl, if_pos h]
theorem sh141 (rho : List (Str × D)) (ds : List D) (d : D) (h : d.noList = true) : PS.set ⟨rho, some ((Str.ofString "names"), ds)⟩ (Str.ofString "frame") d = some ⟨put rho (Str.ofString "frame") d, some ((Str.ofString "names"), ds)⟩ := by
  rw [show PS.set ⟨rho, some ((Str.ofString "names"), ds)⟩ (Str.ofString "frame") d = if d.noList = true then some ⟨put rho (Str.ofString "frame") d, some ((Str.ofString "names"), ds)⟩ else none from rfl, if_pos h]
theorem sh142 (rho : List (Str × D)) (ds : List D) (d : D) (h : d.noList = true) : PS.set ⟨rho, some ((Str.ofString "names"), ds)⟩ (Str.ofString "name") d = some ⟨put rho (Str.ofString "name") d, some ((Str.ofString "names"), ds)⟩ := by
  rw [show PS.set ⟨rho, some ((Str.ofString "names"), ds)⟩ (Str.ofString "name") d = if d.noList = true then some ⟨put rho (Str.ofString "name") d, some ((Str.ofString "names"), ds)⟩ else none from rfl, if_pos h]
theorem sh143 (rho : List (Str × D)) (ds : List D) (d : D) (h : d.noList = true) : PS.set ⟨rho, some ((Str.ofString "names"), ds)⟩ (Str.ofString "sound") d = some ⟨put rho (Str.ofString "sound") d, some ((Str.ofString "names"), ds)⟩ := by
  rw [show PS.set ⟨rho, some ((Str.ofString "names"), ds)⟩ (Str.ofString "sound") d = if d.noList = true then some ⟨put rho (Str.ofString "sound") d, some ((Str.ofString "names"), ds)⟩ else none from rfl, if_pos h]
theorem sh144 (v0 : D) (r : List (Str × D)) : look ((Str.ofString "n", v0) :: r) (Str.ofString "n") = some v0 := rfl
theorem sh145 (v0 v1 : D) (r : List (Str × D)) : look ((Str.ofString "n", v0) :: (Str.ofString "table", v1) :: r) (Str.ofString "table") = some v1 := rfl
theorem sh148 (v0 v1 : D) (r : List (Str × D)) : look ((Str.ofString "data", v0) :: (Str.ofString "place", v1) :: r) (Str.ofString "place") = some v1 := rfl
theorem sh149 (v0 v1 v2 : D) (r : List (Str × D)) : look ((Str.ofString "data", v0) :: (Str.ofString "place", v1) :: (Str.ofString "turn", v2) :: r) (Str.ofString "turn") = some v2 := rfl
theorem sh150 (v0 : D) (r : List (Str × D)) : look ((Str.ofString "where", v0) :: r) (Str.ofString "where") = some v0 := rfl
theorem sh151 (v0 v1 : D) (r : List (Str × D)) : look ((Str.ofString "where", v0) :: (Str.ofString "size", v1) :: r) (Str.ofString "size") = some v1 := rfl
theorem sh152 (v0 v1 v2 : D) (r : List (Str × D)) : look ((Str.ofString "where", v0) :: (Str.ofString "size", v1) :: (Str.ofString "place", v2) :: r) (Str.ofString "place") = some v2 := rfl
theorem sh153 (v0 v1 d : D) : put ((Str.ofString "where", v0) :: (Str.ofString "size", v1) :: []) (Str.ofString "place") d = (Str.ofString "where", v0) :: (Str.ofString "size", v1) :: (Str.ofString "place", d) :: [] := rfl
theorem sh154 (v0 v1 v2 d : D) (r : List (Str × D)) : put ((Str.ofString "where", v0) :: (Str.ofString "size", v1) :: (Str.ofString "place", v2) :: r) (Str.ofString "place") d = (Str.ofString "where", v0) :: (Str.ofString "size", v1) :: (Str.ofString "place", d) :: r := rfl
theorem sh155 (v0 v1 : D) (r : List (Str × D)) : look ((Str.ofString "chunks", v0) :: (Str.ofString "spot", v1) :: r) (Str.ofString "spot") = some v1 := rfl
theorem sh156 (v0 v1 v2 : D) (r : List (Str × D)) : look ((Str.ofString "chunks", v0) :: (Str.ofString "spot", v1) :: (Str.ofString "dirt", v2) :: r) (Str.ofString "dirt") = some v2 := rfl
theorem sh157 (v0 v1 v2 v3 : D) (r : List (Str × D)) : look ((Str.ofString "chunks", v0) :: (Str.ofString "spot", v1) :: (Str.ofString "dirt", v2) :: (Str.ofString "inner", v3) :: r) (Str.ofString "inner") = some v3 := rfl
theorem sh158 (v0 v1 v2 v3 v4 : D) (r : List (Str × D)) : look ((Str.ofString "chunks", v0) :: (Str.ofString "spot", v1) :: (Str.ofString "dirt", v2) :: (Str.ofString "inner", v3) :: (Str.ofString "at", v4) :: r) (Str.ofString "at") = some v4 := rfl
theorem sh159 (v0 v1 v2 v3 v4 v5 : D) (r : List (Str × D)) : look ((Str.ofString "chunks", v0) :: (Str.ofString "spot", v1) :: (Str.ofString "dirt", v2) :: (Str.ofString "inner", v3) :: (Str.ofString "at", v4) :: (Str.ofString "name", v5) :: r) (Str.ofString "name") = some v5 := rfl
theorem sh160 (v0 v1 v2 v3 v4 v5 v6 : D) (r : List (Str × D)) : look ((Str.ofString "chunks", v0) :: (Str.ofString "spot", v1) :: (Str.ofString "dirt", v2) :: (Str.ofString "inner", v3) :: (Str.ofString "at", v4) :: (Str.ofString "name", v5) :: (Str.ofString "body", v6) :: r) (Str.ofString "body") = some v6 := rfl
theorem sh161 (v0 v1 v2 v3 v4 v5 v6 v7 : D) (r : List (Str × D)) : look ((Str.ofString "chunks", v0) :: (Str.ofString "spot", v1) :: (Str.ofString "dirt", v2) :: (Str.ofString "inner", v3) :: (Str.ofString "at", v4) :: (Str.ofString "name", v5) :: (Str.ofString "body", v6) :: (Str.ofString "pad", v7) :: r) (Str.ofString "pad") = some v7 := rfl
theorem sh162 (v0 v1 v2 d : D) : put ((Str.ofString "chunks", v0) :: (Str.ofString "spot", v1) :: (Str.ofString "dirt", v2) :: []) (Str.ofString "inner") d = (Str.ofString "chunks", v0) :: (Str.ofString "spot", v1) :: (Str.ofString "dirt", v2) :: (Str.ofString "inner", d) :: [] := rfl
theorem sh163 (v0 v1 v2 v3 d : D) : put ((Str.ofString "chunks", v0) :: (Str.ofString "spot", v1) :: (Str.ofString "dirt", v2) :: (Str.ofString "inner", v3) :: []) (Str.ofString "at") d = (Str.ofString "chunks", v0) :: (Str.ofString "spot", v1) :: (Str.ofString "dirt", v2) :: (Str.ofString "inner", v3) :: (Str.ofString "at", d) :: [] := rfl
theorem sh164 (v0 v1 v2 v3 d : D) (r : List (Str × D)) : put ((Str.ofString "chunks", v0) :: (Str.ofString "spot", v1) :: (Str.ofString "dirt", v2) :: (Str.ofString "inner", v3) :: r) (Str.ofString "inner") d = (Str.ofString "chunks", v0) :: (Str.ofString "spot", v1) :: (Str.ofString "dirt", v2) :: (Str.ofString "inner", d) :: r := rfl
theorem sh165 (v0 v1 v2 v3 v4 d : D) (r : List (Str × D)) : put ((Str.ofString "chunks", v0) :: (Str.ofString "spot", v1) :: (Str.ofString "dirt", v2) :: (Str.ofString "inner", v3) :: (Str.ofString "at", v4) :: r) (Str.ofString "at") d = (Str.ofString "chunks", v0) :: (Str.ofString "spot", v1) :: (Str.ofString "dirt", v2) :: (Str.ofString "inner", v3) :: (Str.ofString "at", d) :: r := rfl
theorem sh166 (v0 v1 v2 v3 v4 d : D) : put ((Str.ofString "chunks", v0) :: (Str.ofString "spot", v1) :: (Str.ofString "dirt", v2) :: (Str.ofString "inner", v3) :: (Str.ofString "at", v4) :: []) (Str.ofString "name") d = (Str.ofString "chunks", v0) :: (Str.ofString "spot", v1) :: (Str.ofString "dirt", v2) :: (Str.ofString "inner", v3) :: (Str.ofString "at", v4) :: (Str.ofString "name", d) :: [] := rfl
theorem sh167 (v0 v1 v2 v3 v4 v5 d : D) : put ((Str.ofString "chunks", v0) :: (Str.ofString "spot", v1) :: (Str.ofString "dirt", v2) :: (Str.ofString "inner", v3) :: (Str.ofString "at", v4) :: (Str.ofString "name", v5) :: []) (Str.ofString "body") d = (Str.ofString "chunks", v0) :: (Str.ofString "spot", v1) :: (Str.ofString "dirt", v2) :: (Str.ofString "inner", v3) :: (Str.ofString "at", v4) :: (Str.ofString "name", v5) :: (Str.ofString "body", d) :: [] := rfl
theorem sh168 (v0 v1 v2 v3 v4 v5 d : D) (r : List (Str × D)) : put ((Str.ofString "chunks", v0) :: (Str.ofString "spot", v1) :: (Str.ofString "dirt", v2) :: (Str.ofString "inner", v3) :: (Str.ofString "at", v4) :: (Str.ofString "name", v5) :: r) (Str.ofString "name") d = (Str.ofString "chunks", v0) :: (Str.ofString "spot", v1) :: (Str.ofString "dirt", v2) :: (Str.ofString "inner", v3) :: (Str.ofString "at", v4) :: (Str.ofString "name", d) :: r := rfl
theorem sh169 (v0 v1 v2 v3 v4 v5 v6 d : D) (r : List (Str × D)) : put ((Str.ofString "chunks", v0) :: (Str.ofString "spot", v1) :: (Str.ofString "dirt", v2) :: (Str.ofString "inner", v3) :: (Str.ofString "at", v4) :: (Str.ofString "name", v5) :: (Str.ofString "body", v6) :: r) (Str.ofString "body") d = (Str.ofString "chunks", v0) :: (Str.ofString "spot", v1) :: (Str.ofString "dirt", v2) :: (Str.ofString "inner", v3) :: (Str.ofString "at", v4) :: (Str.ofString "name", v5) :: (Str.ofString "body", d) :: r := rfl
theorem sh170 (v0 v1 v2 v3 v4 v5 v6 d : D) : put ((Str.ofString "chunks", v0) :: (Str.ofString "spot", v1) :: (Str.ofString "dirt", v2) :: (Str.ofString "inner", v3) :: (Str.ofString "at", v4) :: (Str.ofString "name", v5) :: (Str.ofString "body", v6) :: []) (Str.ofString "pad") d = (Str.ofString "chunks", v0) :: (Str.ofString "spot", v1) :: (Str.ofString "dirt", v2) :: (Str.ofString "inner", v3) :: (Str.ofString "at", v4) :: (Str.ofString "name", v5) :: (Str.ofString "body", v6) :: (Str.ofString "pad", d) :: [] := rfl
theorem sh171 (v0 v1 v2 v3 v4 v5 v6 v7 d : D) (r : List (Str × D)) : put ((Str.ofString "chunks", v0) :: (Str.ofString "spot", v1) :: (Str.ofString "dirt", v2) :: (Str.ofString "inner", v3) :: (Str.ofString "at", v4) :: (Str.ofString "name", v5) :: (Str.ofString "body", v6) :: (Str.ofString "pad", v7) :: r) (Str.ofString "pad") d = (Str.ofString "chunks", v0) :: (Str.ofString "spot", v1) :: (Str.ofString "dirt", v2) :: (Str.ofString "inner", v3) :: (Str.ofString "at", v4) :: (Str.ofString "name", v5) :: (Str.ofString "body", v6) :: (Str.ofString "pad", d) :: r := rfl
theorem sh172 (v0 v1 v2 : D) (r : List (Str × D)) : look ((Str.ofString "sound", v0) :: (Str.ofString "samples", v1) :: (Str.ofString "got", v2) :: r) (Str.ofString "got") = some v2 := rfl
theorem sh173 (v0 v1 d : D) : put ((Str.ofString "sound", v0) :: (Str.ofString "samples", v1) :: []) (Str.ofString "got") d = (Str.ofString "sound", v0) :: (Str.ofString "samples", v1) :: (Str.ofString "got", d) :: [] := rfl
theorem sh174 (v0 v1 v2 d : D) (r : List (Str × D)) : put ((Str.ofString "sound", v0) :: (Str.ofString "samples", v1) :: (Str.ofString "got", v2) :: r) (Str.ofString "got") d = (Str.ofString "sound", v0) :: (Str.ofString "samples", v1) :: (Str.ofString "got", d) :: r := rfl
theorem sh175 (v0 v1 : D) (r : List (Str × D)) : look ((Str.ofString "data", v0) :: (Str.ofString "got", v1) :: r) (Str.ofString "got") = some v1 := rfl
theorem sh176 (v0 d : D) : put ((Str.ofString "data", v0) :: []) (Str.ofString "got") d = (Str.ofString "data", v0) :: (Str.ofString "got", d) :: [] := rfl
theorem sh177 (v0 v1 d : D) (r : List (Str × D)) : put ((Str.ofString "data", v0) :: (Str.ofString "got", v1) :: r) (Str.ofString "got") d = (Str.ofString "data", v0) :: (Str.ofString "got", d) :: r := rfl
theorem sh178 (v0 v1 : D) (r : List (Str × D)) : look ((Str.ofString "chunks", v0) :: (Str.ofString "got", v1) :: r) (Str.ofString "got") = some v1 := rfl
theorem sh179 (v0 d : D) : put ((Str.ofString "chunks", v0) :: []) (Str.ofString "got") d = (Str.ofString "chunks", v0) :: (Str.ofString "got", d) :: [] := rfl
theorem sh180 (v0 v1 d : D) (r : List (Str × D)) : put ((Str.ofString "chunks", v0) :: (Str.ofString "got", v1) :: r) (Str.ofString "got") d = (Str.ofString "chunks", v0) :: (Str.ofString "got", d) :: r := rfl
theorem sh181 (v0 : D) (r : List (Str × D)) : look ((Str.ofString "got", v0) :: r) (Str.ofString "got") = some v0 := rfl
theorem sh182 (v0 v1 : D) (r : List (Str × D)) : look ((Str.ofString "got", v0) :: (Str.ofString "n", v1) :: r) (Str.ofString "n") = some v1 := rfl
theorem sh183 (v0 d : D) : put ((Str.ofString "got", v0) :: []) (Str.ofString "n") d = (Str.ofString "got", v0) :: (Str.ofString "n", d) :: [] := rfl
theorem sh184 (v0 v1 d : D) (r : List (Str × D)) : put ((Str.ofString "got", v0) :: (Str.ofString "n", v1) :: r) (Str.ofString "n") d = (Str.ofString "got", v0) :: (Str.ofString "n", d) :: r := rfl
theorem sh185 (v0 : D) (r : List (Str × D)) : look ((Str.ofString "parts", v0) :: r) (Str.ofString "parts") = some v0 := rfl
theorem sh186 (v0 v1 : D) (r : List (Str × D)) : look ((Str.ofString "parts", v0) :: (Str.ofString "pair", v1) :: r) (Str.ofString "pair") = some v1 := rfl
theorem sh187 (v0 v1 v2 : D) (r : List (Str × D)) : look ((Str.ofString "parts", v0) :: (Str.ofString "pair", v1) :: (Str.ofString "piece", v2) :: r) (Str.ofString "piece") = some v2 := rfl
theorem sh188 (v0 d : D) : put ((Str.ofString "parts", v0) :: []) (Str.ofString "pair") d = (Str.ofString "parts", v0) :: (Str.ofString "pair", d) :: [] := rfl
theorem sh189 (v0 v1 d : D) (r : List (Str × D)) : put ((Str.ofString "parts", v0) :: (Str.ofString "pair", v1) :: r) (Str.ofString "pair") d = (Str.ofString "parts", v0) :: (Str.ofString "pair", d) :: r := rfl
theorem sh190 (v0 v1 d : D) : put ((Str.ofString "parts", v0) :: (Str.ofString "pair", v1) :: []) (Str.ofString "piece") d = (Str.ofString "parts", v0) :: (Str.ofString "pair", v1) :: (Str.ofString "piece", d) :: [] := rfl
theorem sh191 (v0 v1 v2 d : D) (r : List (Str × D)) : put ((Str.ofString "parts", v0) :: (Str.ofString "pair", v1) :: (Str.ofString "piece", v2) :: r) (Str.ofString "piece") d = (Str.ofString "parts", v0) :: (Str.ofString "pair", v1) :: (Str.ofString "piece", d) :: r := rfl
theorem sh192 (v0 : D) (r : List (Str × D)) : look ((Str.ofString "shape", v0) :: r) (Str.ofString "shape") = some v0 := rfl
theorem sh193 (v0 v1 : D) (r : List (Str × D)) : look ((Str.ofString "shape", v0) :: (Str.ofString "body", v1) :: r) (Str.ofString "body") = some v1 := rfl
theorem sh194 (v0 v1 v2 : D) (r : List (Str × D)) : look ((Str.ofString "shape", v0) :: (Str.ofString "body", v1) :: (Str.ofString "samples", v2) :: r) (Str.ofString "samples") = some v2 := rfl
theorem sh195 (v0 v1 v2 v3 : D) (r : List (Str × D)) : look ((Str.ofString "shape", v0) :: (Str.ofString "body", v1) :: (Str.ofString "samples", v2) :: (Str.ofString "name", v3) :: r) (Str.ofString "name") = some v3 := rfl
theorem sh196 (v0 v1 v2 v3 v4 : D) (r : List (Str × D)) : look ((Str.ofString "shape", v0) :: (Str.ofString "body", v1) :: (Str.ofString "samples", v2) :: (Str.ofString "name", v3) :: (Str.ofString "other", v4) :: r) (Str.ofString "other") = some v4 := rfl
theorem sh197 (v0 v1 v2 v3 v4 v5 : D) (r : List (Str × D)) : look ((Str.ofString "shape", v0) :: (Str.ofString "body", v1) :: (Str.ofString "samples", v2) :: (Str.ofString "name", v3) :: (Str.ofString "other", v4) :: (Str.ofString "mark", v5) :: r) (Str.ofString "mark") = some v5 := rfl
theorem sh198 (v0 v1 v2 v3 v4 d : D) : put ((Str.ofString "shape", v0) :: (Str.ofString "body", v1) :: (Str.ofString "samples", v2) :: (Str.ofString "name", v3) :: (Str.ofString "other", v4) :: []) (Str.ofString "mark") d = (Str.ofString "shape", v0) :: (Str.ofString "body", v1) :: (Str.ofString "samples", v2) :: (Str.ofString "name", v3) :: (Str.ofString "other", v4) :: (Str.ofString "mark", d) :: [] := rfl
theorem sh199 (v0 v1 v2 v3 v4 v5 d : D) (r : List (Str × D)) : put ((Str.ofString "shape", v0) :: (Str.ofString "body", v1) :: (Str.ofString "samples", v2) :: (Str.ofString "name", v3) :: (Str.ofString "other", v4) :: (Str.ofString "mark", v5) :: r) (Str.ofString "mark") d = (Str.ofString "shape", v0) :: (Str.ofString "body", v1) :: (Str.ofString "samples", v2) :: (Str.ofString "name", v3) :: (Str.ofString "other", v4) :: (Str.ofString "mark", d) :: r := rfl
theorem sh200 (v0 v1 v2 v3 v4 : D) : List.filter (fun (p : Str × D) => !(p.1 == (Str.ofString "out"))) ((Str.ofString "shape", v0) :: (Str.ofString "body", v1) :: (Str.ofString "samples", v2) :: (Str.ofString "name", v3) :: (Str.ofString "other", v4) :: []) = (Str.ofString "shape", v0) :: (Str.ofString "body", v1) :: (Str.ofString "samples", v2) :: (Str.ofString "name", v3) :: (Str.ofString "other", v4) :: [] := rfl
theorem sh201 (rho : List (Str × D)) (ds : List D) : PS.get ⟨rho, some ((Str.ofString "out"), ds)⟩ (Str.ofString "body") = look rho (Str.ofString "body") := rfl
theorem sh202 (rho : List (Str × D)) (ds : List D) : PS.get ⟨rho, some ((Str.ofString "out"), ds)⟩ (Str.ofString "mark") = look rho (Str.ofString "mark") := rfl
theorem sh203 (rho : List (Str × D)) (ds : List D) : PS.get ⟨rho, some ((Str.ofString "out"), ds)⟩ (Str.ofString "name") = look rho (Str.ofString "name") := rfl
theorem sh204 (rho : List (Str × D)) (ds : List D) : PS.get ⟨rho, some ((Str.ofString "out"), ds)⟩ (Str.ofString "other") = look rho (Str.ofString "other") := rfl
theorem sh205 (rho : List (Str × D)) (ds : List D) : PS.get ⟨rho, some ((Str.ofString "out"), ds)⟩ (Str.ofString "samples") = look rho (Str.ofString "samples") := rfl
theorem sh206 (rho : List (Str × D)) (ds : List D) : PS.get ⟨rho, some ((Str.ofString "out"), ds)⟩ (Str.ofString "shape") = look rho (Str.ofString "shape") := rfl
theorem sh207 (rho : List (Str × D)) (ds : List D) (d : D) (h : d.noList = true) : PS.set ⟨rho, some ((Str.ofString "out"), ds)⟩ (Str.ofString "mark") d = some ⟨put rho (Str.ofString "mark") d, some ((Str.ofString "out"), ds)⟩ := by
  rw [show PS.set ⟨rho, some ((Str.ofString "out"), ds)⟩ (Str.ofString "mark") d = if d.noList = true then some ⟨put rho (Str.ofString "mark") d, some ((Str.ofString "out"), ds)⟩ else none from rfl, if_pos h]
end
end Mine
namespace Mine
section
open PySem

theorem nd_loc {F : Str → List D → R D} {fns : List Str} {G : Str → Option D} {B : List Str} {sc : Scope} {x : Str} (h : (sc.names.lookup x == some .local && !(x == Str.ofString "__debug__")) = true) (s : PS) : nameD ⟨F, fns, G, B, sc⟩ s x = getR (s.get x) := by
  simp only [Bool.and_eq_true, beq_iff_eq, Bool.not_eq_true', beq_eq_false_iff_ne] at h
  unfold nameD
  rw [if_neg (by simpa using h.2), show Cfg.kind ⟨F, fns, G, B, sc⟩ x = some .local from h.1]
  rfl
theorem nd_glo {F : Str → List D → R D} {fns : List Str} {G : Str → Option D} {B : List Str} {sc : Scope} {x : Str} (h : (sc.names.lookup x == some .globalImplicit && !(x == Str.ofString "__debug__")) = true) (s : PS) : nameD ⟨F, fns, G, B, sc⟩ s x = getR (G x) := by
  simp only [Bool.and_eq_true, beq_iff_eq, Bool.not_eq_true', beq_eq_false_iff_ne] at h
  unfold nameD
  rw [if_neg (by simpa using h.2), show Cfg.kind ⟨F, fns, G, B, sc⟩ x = some .globalImplicit from h.1]
  rfl
theorem ln_loc {F : Str → List D → R D} {fns : List Str} {G : Str → Option D} {B : List Str} {sc : Scope} {x : Str} (h : (sc.names.lookup x == some .local && !(x == Str.ofString "__debug__")) = true) : localName ⟨F, fns, G, B, sc⟩ x = true := by
  simp only [Bool.and_eq_true] at h
  exact h.1
theorem ca_glo {F : Str → List D → R D} {G : Str → Option D} {sc : Scope} {x : Str} (h : (!(x == Str.ofString "__debug__") && (sc.names.lookup x == some .globalImplicit) && (if B1.contains x = true then callables.contains x else fns1.contains x)) = true) : calleeOk ⟨F, fns1, G, B1, sc⟩ x = true := h
theorem ve_glo {F : Str → List D → R D} {fns : List Str} {G : Str → Option D} {sc : Scope} (h : (Str.ofString "ValueError" == Str.ofString "ValueError" && (sc.names.lookup (Str.ofString "ValueError") == some .globalImplicit) && B1.contains (Str.ofString "ValueError")) = true) : isVE ⟨F, fns, G, B1, sc⟩ (Str.ofString "ValueError") = true := h
theorem bb1 : B1.contains (Str.ofString "_format_ok") = false := by decide +kernel
theorem bb6 : B1.contains (Str.ofString "_law_bytes") = false := by decide +kernel
theorem bb7 : B1.contains (Str.ofString "_law_chunks") = false := by decide +kernel
theorem bb8 : B1.contains (Str.ofString "_law_fits") = false := by decide +kernel
theorem bb9 : B1.contains (Str.ofString "_law_four") = false := by decide +kernel
theorem bb10 : B1.contains (Str.ofString "_law_join") = false := by decide +kernel
theorem bb11 : B1.contains (Str.ofString "_law_name") = false := by decide +kernel
theorem bb12 : B1.contains (Str.ofString "_law_open") = false := by decide +kernel
theorem bb13 : B1.contains (Str.ofString "_law_parts_typed") = false := by decide +kernel
theorem bb14 : B1.contains (Str.ofString "_law_pick") = false := by decide +kernel
theorem bb15 : B1.contains (Str.ofString "_law_place") = false := by decide +kernel
theorem bb16 : B1.contains (Str.ofString "_law_plain") = false := by decide +kernel
theorem bb17 : B1.contains (Str.ofString "_law_save") = false := by decide +kernel
theorem bb18 : B1.contains (Str.ofString "_law_sound_ok") = false := by decide +kernel
theorem bb19 : B1.contains (Str.ofString "_law_split") = false := by decide +kernel
theorem bb20 : B1.contains (Str.ofString "_law_turned") = false := by decide +kernel
theorem bb21 : B1.contains (Str.ofString "_law_two") = false := by decide +kernel
theorem bb22 : B1.contains (Str.ofString "_law_typed") = false := by decide +kernel
theorem bb23 : B1.contains (Str.ofString "_read_uint") = false := by decide +kernel
theorem bb24 : B1.contains (Str.ofString "_write_uint") = false := by decide +kernel
theorem bb25 : B1.contains (Str.ofString "bytes") = true := by decide +kernel
theorem bb27 : B1.contains (Str.ofString "len") = true := by decide +kernel
theorem bb29 : B1.contains (Str.ofString "range") = true := by decide +kernel
theorem bb30 : B1.contains (Str.ofString "read_chunks") = false := by decide +kernel
theorem bb31 : B1.contains (Str.ofString "read_format") = false := by decide +kernel
theorem bb32 : B1.contains (Str.ofString "read_wav") = false := by decide +kernel
theorem bb35 : B1.contains (Str.ofString "type") = true := by decide +kernel
theorem bb36 : B1.contains (Str.ofString "write_chunks") = false := by decide +kernel
theorem bb37 : B1.contains (Str.ofString "write_format") = false := by decide +kernel
theorem bb38 : B1.contains (Str.ofString "write_wav") = false := by decide +kernel
theorem gg0 : G1 (Str.ofString "tuple") = some (D.typ "tuple") := by simp only [G1_at, String.reduceEq, reduceIte]
theorem gg1 : G1 (Str.ofString "list") = some (D.typ "list") := by simp only [G1_at, String.reduceEq, reduceIte]
theorem gg2 : G1 (Str.ofString "int") = some (D.typ "int") := by simp only [G1_at, String.reduceEq, reduceIte]
theorem gg3 : G1 (Str.ofString "bytes") = some (D.typ "bytes") := by simp only [G1_at, String.reduceEq, reduceIte]
theorem gg4 : G1 (Str.ofString "_law_CHANNELS") = some (tabAt P1 14) := by simp only [G1_at, String.reduceEq, reduceIte]
theorem gg5 : G1 (Str.ofString "_law_RATES") = some (tabAt P1 15) := by simp only [G1_at, String.reduceEq, reduceIte]
theorem gg6 : G1 (Str.ofString "_law_BITS") = some (tabAt P1 16) := by simp only [G1_at, String.reduceEq, reduceIte]
theorem gg7 : G1 (Str.ofString "_law_SHAPES") = some (tabAt P1 17) := by simp only [G1_at, String.reduceEq, reduceIte]
theorem u1_0 (F : Str → List D → R D) (G : Str → Option D) (s : PS) : nameD ⟨F, fns1, G, B1, (fnAt P1 1).scope⟩ s (Str.ofString "value") = getR (s.get (Str.ofString "value")) := nd_loc (by decide +kernel) s
theorem u1_2 (F : Str → List D → R D) (G : Str → Option D) (s : PS) : nameD ⟨F, fns1, G, B1, (fnAt P1 1).scope⟩ s (Str.ofString "size") = getR (s.get (Str.ofString "size")) := nd_loc (by decide +kernel) s
theorem u1_4 (F : Str → List D → R D) (G : Str → Option D) (s : PS) : nameD ⟨F, fns1, G, B1, (fnAt P1 1).scope⟩ s (Str.ofString "out") = getR (s.get (Str.ofString "out")) := nd_loc (by decide +kernel) s
theorem u1_5 (F : Str → List D → R D) (G : Str → Option D) : localName ⟨F, fns1, G, B1, (fnAt P1 1).scope⟩ (Str.ofString "out") = true := ln_loc (by decide +kernel)
theorem u1_6 (F : Str → List D → R D) (G : Str → Option D) (s : PS) : nameD ⟨F, fns1, G, B1, (fnAt P1 1).scope⟩ s (Str.ofString "rest") = getR (s.get (Str.ofString "rest")) := nd_loc (by decide +kernel) s
theorem u1_7 (F : Str → List D → R D) (G : Str → Option D) : localName ⟨F, fns1, G, B1, (fnAt P1 1).scope⟩ (Str.ofString "rest") = true := ln_loc (by decide +kernel)
theorem u1_9 (F : Str → List D → R D) (G : Str → Option D) : localName ⟨F, fns1, G, B1, (fnAt P1 1).scope⟩ (Str.ofString "_") = true := ln_loc (by decide +kernel)
theorem u1_12 (F : Str → List D → R D) (G : Str → Option D) : (Cfg.kind ⟨F, fns1, G, B1, (fnAt P1 1).scope⟩ (Str.ofString "range") == some NameKind.globalImplicit) = true := (show ((fnAt P1 1).scope.names.lookup (Str.ofString "range") == some NameKind.globalImplicit) = true by decide +kernel)
theorem u1_14 (F : Str → List D → R D) (G : Str → Option D) : calleeOk ⟨F, fns1, G, B1, (fnAt P1 1).scope⟩ (Str.ofString "bytes") = true := ca_glo (by decide +kernel)
theorem u2_0 (F : Str → List D → R D) (G : Str → Option D) (s : PS) : nameD ⟨F, fns1, G, B1, (fnAt P1 2).scope⟩ s (Str.ofString "data") = getR (s.get (Str.ofString "data")) := nd_loc (by decide +kernel) s
theorem u2_2 (F : Str → List D → R D) (G : Str → Option D) (s : PS) : nameD ⟨F, fns1, G, B1, (fnAt P1 2).scope⟩ s (Str.ofString "start") = getR (s.get (Str.ofString "start")) := nd_loc (by decide +kernel) s
theorem u2_4 (F : Str → List D → R D) (G : Str → Option D) (s : PS) : nameD ⟨F, fns1, G, B1, (fnAt P1 2).scope⟩ s (Str.ofString "size") = getR (s.get (Str.ofString "size")) := nd_loc (by decide +kernel) s
theorem u2_6 (F : Str → List D → R D) (G : Str → Option D) (s : PS) : nameD ⟨F, fns1, G, B1, (fnAt P1 2).scope⟩ s (Str.ofString "total") = getR (s.get (Str.ofString "total")) := nd_loc (by decide +kernel) s
theorem u2_7 (F : Str → List D → R D) (G : Str → Option D) : localName ⟨F, fns1, G, B1, (fnAt P1 2).scope⟩ (Str.ofString "total") = true := ln_loc (by decide +kernel)
theorem u2_8 (F : Str → List D → R D) (G : Str → Option D) (s : PS) : nameD ⟨F, fns1, G, B1, (fnAt P1 2).scope⟩ s (Str.ofString "i") = getR (s.get (Str.ofString "i")) := nd_loc (by decide +kernel) s
theorem u2_9 (F : Str → List D → R D) (G : Str → Option D) : localName ⟨F, fns1, G, B1, (fnAt P1 2).scope⟩ (Str.ofString "i") = true := ln_loc (by decide +kernel)
theorem u4_0 (F : Str → List D → R D) (G : Str → Option D) (s : PS) : nameD ⟨F, fns1, G, B1, (fnAt P1 4).scope⟩ s (Str.ofString "chunks") = getR (s.get (Str.ofString "chunks")) := nd_loc (by decide +kernel) s
theorem u4_1 (F : Str → List D → R D) (G : Str → Option D) : localName ⟨F, fns1, G, B1, (fnAt P1 4).scope⟩ (Str.ofString "chunks") = true := ln_loc (by decide +kernel)
theorem u4_2 (F : Str → List D → R D) (G : Str → Option D) (s : PS) : nameD ⟨F, fns1, G, B1, (fnAt P1 4).scope⟩ s (Str.ofString "parts") = getR (s.get (Str.ofString "parts")) := nd_loc (by decide +kernel) s
theorem u4_3 (F : Str → List D → R D) (G : Str → Option D) : localName ⟨F, fns1, G, B1, (fnAt P1 4).scope⟩ (Str.ofString "parts") = true := ln_loc (by decide +kernel)
theorem u4_4 (F : Str → List D → R D) (G : Str → Option D) (s : PS) : nameD ⟨F, fns1, G, B1, (fnAt P1 4).scope⟩ s (Str.ofString "total") = getR (s.get (Str.ofString "total")) := nd_loc (by decide +kernel) s
theorem u4_5 (F : Str → List D → R D) (G : Str → Option D) : localName ⟨F, fns1, G, B1, (fnAt P1 4).scope⟩ (Str.ofString "total") = true := ln_loc (by decide +kernel)
theorem u4_6 (F : Str → List D → R D) (G : Str → Option D) (s : PS) : nameD ⟨F, fns1, G, B1, (fnAt P1 4).scope⟩ s (Str.ofString "name") = getR (s.get (Str.ofString "name")) := nd_loc (by decide +kernel) s
theorem u4_7 (F : Str → List D → R D) (G : Str → Option D) : localName ⟨F, fns1, G, B1, (fnAt P1 4).scope⟩ (Str.ofString "name") = true := ln_loc (by decide +kernel)
theorem u4_8 (F : Str → List D → R D) (G : Str → Option D) (s : PS) : nameD ⟨F, fns1, G, B1, (fnAt P1 4).scope⟩ s (Str.ofString "body") = getR (s.get (Str.ofString "body")) := nd_loc (by decide +kernel) s
theorem u4_9 (F : Str → List D → R D) (G : Str → Option D) : localName ⟨F, fns1, G, B1, (fnAt P1 4).scope⟩ (Str.ofString "body") = true := ln_loc (by decide +kernel)
theorem u4_10 (F : Str → List D → R D) (G : Str → Option D) (s : PS) : nameD ⟨F, fns1, G, B1, (fnAt P1 4).scope⟩ s (Str.ofString "size") = getR (s.get (Str.ofString "size")) := nd_loc (by decide +kernel) s
theorem u4_11 (F : Str → List D → R D) (G : Str → Option D) : localName ⟨F, fns1, G, B1, (fnAt P1 4).scope⟩ (Str.ofString "size") = true := ln_loc (by decide +kernel)
theorem u4_12 (F : Str → List D → R D) (G : Str → Option D) (s : PS) : nameD ⟨F, fns1, G, B1, (fnAt P1 4).scope⟩ s (Str.ofString "pad") = getR (s.get (Str.ofString "pad")) := nd_loc (by decide +kernel) s
theorem u4_13 (F : Str → List D → R D) (G : Str → Option D) : localName ⟨F, fns1, G, B1, (fnAt P1 4).scope⟩ (Str.ofString "pad") = true := ln_loc (by decide +kernel)
theorem u4_14 (F : Str → List D → R D) (G : Str → Option D) (s : PS) : nameD ⟨F, fns1, G, B1, (fnAt P1 4).scope⟩ s (Str.ofString "inner") = getR (s.get (Str.ofString "inner")) := nd_loc (by decide +kernel) s
theorem u4_15 (F : Str → List D → R D) (G : Str → Option D) : localName ⟨F, fns1, G, B1, (fnAt P1 4).scope⟩ (Str.ofString "inner") = true := ln_loc (by decide +kernel)
theorem u4_17 (F : Str → List D → R D) (G : Str → Option D) : calleeOk ⟨F, fns1, G, B1, (fnAt P1 4).scope⟩ (Str.ofString "len") = true := ca_glo (by decide +kernel)
theorem u4_18 (F : Str → List D → R D) (G : Str → Option D) : isVE ⟨F, fns1, G, B1, (fnAt P1 4).scope⟩ (Str.ofString "ValueError") = true := ve_glo (by decide +kernel)
theorem u4_20 (F : Str → List D → R D) (G : Str → Option D) : calleeOk ⟨F, fns1, G, B1, (fnAt P1 4).scope⟩ (Str.ofString "_write_uint") = true := ca_glo (by decide +kernel)
theorem u5_0 (F : Str → List D → R D) (G : Str → Option D) (s : PS) : nameD ⟨F, fns1, G, B1, (fnAt P1 5).scope⟩ s (Str.ofString "data") = getR (s.get (Str.ofString "data")) := nd_loc (by decide +kernel) s
theorem u5_2 (F : Str → List D → R D) (G : Str → Option D) (s : PS) : nameD ⟨F, fns1, G, B1, (fnAt P1 5).scope⟩ s (Str.ofString "length") = getR (s.get (Str.ofString "length")) := nd_loc (by decide +kernel) s
theorem u5_3 (F : Str → List D → R D) (G : Str → Option D) : localName ⟨F, fns1, G, B1, (fnAt P1 5).scope⟩ (Str.ofString "length") = true := ln_loc (by decide +kernel)
theorem u5_4 (F : Str → List D → R D) (G : Str → Option D) (s : PS) : nameD ⟨F, fns1, G, B1, (fnAt P1 5).scope⟩ s (Str.ofString "out") = getR (s.get (Str.ofString "out")) := nd_loc (by decide +kernel) s
theorem u5_5 (F : Str → List D → R D) (G : Str → Option D) : localName ⟨F, fns1, G, B1, (fnAt P1 5).scope⟩ (Str.ofString "out") = true := ln_loc (by decide +kernel)
theorem u5_6 (F : Str → List D → R D) (G : Str → Option D) (s : PS) : nameD ⟨F, fns1, G, B1, (fnAt P1 5).scope⟩ s (Str.ofString "pos") = getR (s.get (Str.ofString "pos")) := nd_loc (by decide +kernel) s
theorem u5_7 (F : Str → List D → R D) (G : Str → Option D) : localName ⟨F, fns1, G, B1, (fnAt P1 5).scope⟩ (Str.ofString "pos") = true := ln_loc (by decide +kernel)
theorem u5_8 (F : Str → List D → R D) (G : Str → Option D) (s : PS) : nameD ⟨F, fns1, G, B1, (fnAt P1 5).scope⟩ s (Str.ofString "rest") = getR (s.get (Str.ofString "rest")) := nd_loc (by decide +kernel) s
theorem u5_9 (F : Str → List D → R D) (G : Str → Option D) : localName ⟨F, fns1, G, B1, (fnAt P1 5).scope⟩ (Str.ofString "rest") = true := ln_loc (by decide +kernel)
theorem u5_10 (F : Str → List D → R D) (G : Str → Option D) (s : PS) : nameD ⟨F, fns1, G, B1, (fnAt P1 5).scope⟩ s (Str.ofString "size") = getR (s.get (Str.ofString "size")) := nd_loc (by decide +kernel) s
theorem u5_11 (F : Str → List D → R D) (G : Str → Option D) : localName ⟨F, fns1, G, B1, (fnAt P1 5).scope⟩ (Str.ofString "size") = true := ln_loc (by decide +kernel)
theorem u5_12 (F : Str → List D → R D) (G : Str → Option D) (s : PS) : nameD ⟨F, fns1, G, B1, (fnAt P1 5).scope⟩ s (Str.ofString "pad") = getR (s.get (Str.ofString "pad")) := nd_loc (by decide +kernel) s
theorem u5_13 (F : Str → List D → R D) (G : Str → Option D) : localName ⟨F, fns1, G, B1, (fnAt P1 5).scope⟩ (Str.ofString "pad") = true := ln_loc (by decide +kernel)
theorem u5_15 (F : Str → List D → R D) (G : Str → Option D) : calleeOk ⟨F, fns1, G, B1, (fnAt P1 5).scope⟩ (Str.ofString "len") = true := ca_glo (by decide +kernel)
theorem u5_16 (F : Str → List D → R D) (G : Str → Option D) : isVE ⟨F, fns1, G, B1, (fnAt P1 5).scope⟩ (Str.ofString "ValueError") = true := ve_glo (by decide +kernel)
theorem u5_18 (F : Str → List D → R D) (G : Str → Option D) : calleeOk ⟨F, fns1, G, B1, (fnAt P1 5).scope⟩ (Str.ofString "_read_uint") = true := ca_glo (by decide +kernel)
theorem u7_0 (F : Str → List D → R D) (G : Str → Option D) (s : PS) : nameD ⟨F, fns1, G, B1, (fnAt P1 7).scope⟩ s (Str.ofString "sound") = getR (s.get (Str.ofString "sound")) := nd_loc (by decide +kernel) s
theorem u7_2 (F : Str → List D → R D) (G : Str → Option D) (s : PS) : nameD ⟨F, fns1, G, B1, (fnAt P1 7).scope⟩ s (Str.ofString "channels") = getR (s.get (Str.ofString "channels")) := nd_loc (by decide +kernel) s
theorem u7_3 (F : Str → List D → R D) (G : Str → Option D) : localName ⟨F, fns1, G, B1, (fnAt P1 7).scope⟩ (Str.ofString "channels") = true := ln_loc (by decide +kernel)
theorem u7_4 (F : Str → List D → R D) (G : Str → Option D) (s : PS) : nameD ⟨F, fns1, G, B1, (fnAt P1 7).scope⟩ s (Str.ofString "rate") = getR (s.get (Str.ofString "rate")) := nd_loc (by decide +kernel) s
theorem u7_5 (F : Str → List D → R D) (G : Str → Option D) : localName ⟨F, fns1, G, B1, (fnAt P1 7).scope⟩ (Str.ofString "rate") = true := ln_loc (by decide +kernel)
theorem u7_6 (F : Str → List D → R D) (G : Str → Option D) (s : PS) : nameD ⟨F, fns1, G, B1, (fnAt P1 7).scope⟩ s (Str.ofString "bits") = getR (s.get (Str.ofString "bits")) := nd_loc (by decide +kernel) s
theorem u7_7 (F : Str → List D → R D) (G : Str → Option D) : localName ⟨F, fns1, G, B1, (fnAt P1 7).scope⟩ (Str.ofString "bits") = true := ln_loc (by decide +kernel)
theorem u7_8 (F : Str → List D → R D) (G : Str → Option D) (s : PS) : nameD ⟨F, fns1, G, B1, (fnAt P1 7).scope⟩ s (Str.ofString "frame") = getR (s.get (Str.ofString "frame")) := nd_loc (by decide +kernel) s
theorem u7_9 (F : Str → List D → R D) (G : Str → Option D) : localName ⟨F, fns1, G, B1, (fnAt P1 7).scope⟩ (Str.ofString "frame") = true := ln_loc (by decide +kernel)
theorem u8_0 (F : Str → List D → R D) (G : Str → Option D) (s : PS) : nameD ⟨F, fns1, G, B1, (fnAt P1 8).scope⟩ s (Str.ofString "sound") = getR (s.get (Str.ofString "sound")) := nd_loc (by decide +kernel) s
theorem u8_2 (F : Str → List D → R D) (G : Str → Option D) (s : PS) : nameD ⟨F, fns1, G, B1, (fnAt P1 8).scope⟩ s (Str.ofString "channels") = getR (s.get (Str.ofString "channels")) := nd_loc (by decide +kernel) s
theorem u8_3 (F : Str → List D → R D) (G : Str → Option D) : localName ⟨F, fns1, G, B1, (fnAt P1 8).scope⟩ (Str.ofString "channels") = true := ln_loc (by decide +kernel)
theorem u8_4 (F : Str → List D → R D) (G : Str → Option D) (s : PS) : nameD ⟨F, fns1, G, B1, (fnAt P1 8).scope⟩ s (Str.ofString "rate") = getR (s.get (Str.ofString "rate")) := nd_loc (by decide +kernel) s
theorem u8_5 (F : Str → List D → R D) (G : Str → Option D) : localName ⟨F, fns1, G, B1, (fnAt P1 8).scope⟩ (Str.ofString "rate") = true := ln_loc (by decide +kernel)
theorem u8_6 (F : Str → List D → R D) (G : Str → Option D) (s : PS) : nameD ⟨F, fns1, G, B1, (fnAt P1 8).scope⟩ s (Str.ofString "bits") = getR (s.get (Str.ofString "bits")) := nd_loc (by decide +kernel) s
theorem u8_7 (F : Str → List D → R D) (G : Str → Option D) : localName ⟨F, fns1, G, B1, (fnAt P1 8).scope⟩ (Str.ofString "bits") = true := ln_loc (by decide +kernel)
theorem u8_8 (F : Str → List D → R D) (G : Str → Option D) (s : PS) : nameD ⟨F, fns1, G, B1, (fnAt P1 8).scope⟩ s (Str.ofString "frame") = getR (s.get (Str.ofString "frame")) := nd_loc (by decide +kernel) s
theorem u8_9 (F : Str → List D → R D) (G : Str → Option D) : localName ⟨F, fns1, G, B1, (fnAt P1 8).scope⟩ (Str.ofString "frame") = true := ln_loc (by decide +kernel)
theorem u8_11 (F : Str → List D → R D) (G : Str → Option D) : calleeOk ⟨F, fns1, G, B1, (fnAt P1 8).scope⟩ (Str.ofString "_format_ok") = true := ca_glo (by decide +kernel)
theorem u8_12 (F : Str → List D → R D) (G : Str → Option D) : isVE ⟨F, fns1, G, B1, (fnAt P1 8).scope⟩ (Str.ofString "ValueError") = true := ve_glo (by decide +kernel)
theorem u8_14 (F : Str → List D → R D) (G : Str → Option D) : calleeOk ⟨F, fns1, G, B1, (fnAt P1 8).scope⟩ (Str.ofString "_write_uint") = true := ca_glo (by decide +kernel)
theorem u9_0 (F : Str → List D → R D) (G : Str → Option D) (s : PS) : nameD ⟨F, fns1, G, B1, (fnAt P1 9).scope⟩ s (Str.ofString "body") = getR (s.get (Str.ofString "body")) := nd_loc (by decide +kernel) s
theorem u9_2 (F : Str → List D → R D) (G : Str → Option D) (s : PS) : nameD ⟨F, fns1, G, B1, (fnAt P1 9).scope⟩ s (Str.ofString "kind") = getR (s.get (Str.ofString "kind")) := nd_loc (by decide +kernel) s
theorem u9_3 (F : Str → List D → R D) (G : Str → Option D) : localName ⟨F, fns1, G, B1, (fnAt P1 9).scope⟩ (Str.ofString "kind") = true := ln_loc (by decide +kernel)
theorem u9_4 (F : Str → List D → R D) (G : Str → Option D) (s : PS) : nameD ⟨F, fns1, G, B1, (fnAt P1 9).scope⟩ s (Str.ofString "channels") = getR (s.get (Str.ofString "channels")) := nd_loc (by decide +kernel) s
theorem u9_5 (F : Str → List D → R D) (G : Str → Option D) : localName ⟨F, fns1, G, B1, (fnAt P1 9).scope⟩ (Str.ofString "channels") = true := ln_loc (by decide +kernel)
theorem u9_6 (F : Str → List D → R D) (G : Str → Option D) (s : PS) : nameD ⟨F, fns1, G, B1, (fnAt P1 9).scope⟩ s (Str.ofString "rate") = getR (s.get (Str.ofString "rate")) := nd_loc (by decide +kernel) s
theorem u9_7 (F : Str → List D → R D) (G : Str → Option D) : localName ⟨F, fns1, G, B1, (fnAt P1 9).scope⟩ (Str.ofString "rate") = true := ln_loc (by decide +kernel)
theorem u9_8 (F : Str → List D → R D) (G : Str → Option D) (s : PS) : nameD ⟨F, fns1, G, B1, (fnAt P1 9).scope⟩ s (Str.ofString "byte_rate") = getR (s.get (Str.ofString "byte_rate")) := nd_loc (by decide +kernel) s
theorem u9_9 (F : Str → List D → R D) (G : Str → Option D) : localName ⟨F, fns1, G, B1, (fnAt P1 9).scope⟩ (Str.ofString "byte_rate") = true := ln_loc (by decide +kernel)
theorem u9_10 (F : Str → List D → R D) (G : Str → Option D) (s : PS) : nameD ⟨F, fns1, G, B1, (fnAt P1 9).scope⟩ s (Str.ofString "frame") = getR (s.get (Str.ofString "frame")) := nd_loc (by decide +kernel) s
theorem u9_11 (F : Str → List D → R D) (G : Str → Option D) : localName ⟨F, fns1, G, B1, (fnAt P1 9).scope⟩ (Str.ofString "frame") = true := ln_loc (by decide +kernel)
theorem u9_12 (F : Str → List D → R D) (G : Str → Option D) (s : PS) : nameD ⟨F, fns1, G, B1, (fnAt P1 9).scope⟩ s (Str.ofString "bits") = getR (s.get (Str.ofString "bits")) := nd_loc (by decide +kernel) s
theorem u9_13 (F : Str → List D → R D) (G : Str → Option D) : localName ⟨F, fns1, G, B1, (fnAt P1 9).scope⟩ (Str.ofString "bits") = true := ln_loc (by decide +kernel)
theorem u9_15 (F : Str → List D → R D) (G : Str → Option D) : calleeOk ⟨F, fns1, G, B1, (fnAt P1 9).scope⟩ (Str.ofString "len") = true := ca_glo (by decide +kernel)
theorem u9_16 (F : Str → List D → R D) (G : Str → Option D) : isVE ⟨F, fns1, G, B1, (fnAt P1 9).scope⟩ (Str.ofString "ValueError") = true := ve_glo (by decide +kernel)
theorem u9_18 (F : Str → List D → R D) (G : Str → Option D) : calleeOk ⟨F, fns1, G, B1, (fnAt P1 9).scope⟩ (Str.ofString "_read_uint") = true := ca_glo (by decide +kernel)
theorem u9_20 (F : Str → List D → R D) (G : Str → Option D) : calleeOk ⟨F, fns1, G, B1, (fnAt P1 9).scope⟩ (Str.ofString "_format_ok") = true := ca_glo (by decide +kernel)
theorem u11_0 (F : Str → List D → R D) (G : Str → Option D) (s : PS) : nameD ⟨F, fns1, G, B1, (fnAt P1 11).scope⟩ s (Str.ofString "sound") = getR (s.get (Str.ofString "sound")) := nd_loc (by decide +kernel) s
theorem u11_2 (F : Str → List D → R D) (G : Str → Option D) (s : PS) : nameD ⟨F, fns1, G, B1, (fnAt P1 11).scope⟩ s (Str.ofString "samples") = getR (s.get (Str.ofString "samples")) := nd_loc (by decide +kernel) s
theorem u11_4 (F : Str → List D → R D) (G : Str → Option D) (s : PS) : nameD ⟨F, fns1, G, B1, (fnAt P1 11).scope⟩ s (Str.ofString "fmt_body") = getR (s.get (Str.ofString "fmt_body")) := nd_loc (by decide +kernel) s
theorem u11_5 (F : Str → List D → R D) (G : Str → Option D) : localName ⟨F, fns1, G, B1, (fnAt P1 11).scope⟩ (Str.ofString "fmt_body") = true := ln_loc (by decide +kernel)
theorem u11_6 (F : Str → List D → R D) (G : Str → Option D) (s : PS) : nameD ⟨F, fns1, G, B1, (fnAt P1 11).scope⟩ s (Str.ofString "frame") = getR (s.get (Str.ofString "frame")) := nd_loc (by decide +kernel) s
theorem u11_7 (F : Str → List D → R D) (G : Str → Option D) : localName ⟨F, fns1, G, B1, (fnAt P1 11).scope⟩ (Str.ofString "frame") = true := ln_loc (by decide +kernel)
theorem u11_9 (F : Str → List D → R D) (G : Str → Option D) : calleeOk ⟨F, fns1, G, B1, (fnAt P1 11).scope⟩ (Str.ofString "write_format") = true := ca_glo (by decide +kernel)
theorem u11_11 (F : Str → List D → R D) (G : Str → Option D) : calleeOk ⟨F, fns1, G, B1, (fnAt P1 11).scope⟩ (Str.ofString "len") = true := ca_glo (by decide +kernel)
theorem u11_12 (F : Str → List D → R D) (G : Str → Option D) : isVE ⟨F, fns1, G, B1, (fnAt P1 11).scope⟩ (Str.ofString "ValueError") = true := ve_glo (by decide +kernel)
theorem u11_14 (F : Str → List D → R D) (G : Str → Option D) : calleeOk ⟨F, fns1, G, B1, (fnAt P1 11).scope⟩ (Str.ofString "write_chunks") = true := ca_glo (by decide +kernel)
theorem u12_0 (F : Str → List D → R D) (G : Str → Option D) (s : PS) : nameD ⟨F, fns1, G, B1, (fnAt P1 12).scope⟩ s (Str.ofString "data") = getR (s.get (Str.ofString "data")) := nd_loc (by decide +kernel) s
theorem u12_2 (F : Str → List D → R D) (G : Str → Option D) (s : PS) : nameD ⟨F, fns1, G, B1, (fnAt P1 12).scope⟩ s (Str.ofString "chunks") = getR (s.get (Str.ofString "chunks")) := nd_loc (by decide +kernel) s
theorem u12_3 (F : Str → List D → R D) (G : Str → Option D) : localName ⟨F, fns1, G, B1, (fnAt P1 12).scope⟩ (Str.ofString "chunks") = true := ln_loc (by decide +kernel)
theorem u12_4 (F : Str → List D → R D) (G : Str → Option D) (s : PS) : nameD ⟨F, fns1, G, B1, (fnAt P1 12).scope⟩ s (Str.ofString "names") = getR (s.get (Str.ofString "names")) := nd_loc (by decide +kernel) s
theorem u12_5 (F : Str → List D → R D) (G : Str → Option D) : localName ⟨F, fns1, G, B1, (fnAt P1 12).scope⟩ (Str.ofString "names") = true := ln_loc (by decide +kernel)
theorem u12_6 (F : Str → List D → R D) (G : Str → Option D) (s : PS) : nameD ⟨F, fns1, G, B1, (fnAt P1 12).scope⟩ s (Str.ofString "fmt_body") = getR (s.get (Str.ofString "fmt_body")) := nd_loc (by decide +kernel) s
theorem u12_7 (F : Str → List D → R D) (G : Str → Option D) : localName ⟨F, fns1, G, B1, (fnAt P1 12).scope⟩ (Str.ofString "fmt_body") = true := ln_loc (by decide +kernel)
theorem u12_8 (F : Str → List D → R D) (G : Str → Option D) (s : PS) : nameD ⟨F, fns1, G, B1, (fnAt P1 12).scope⟩ s (Str.ofString "data_body") = getR (s.get (Str.ofString "data_body")) := nd_loc (by decide +kernel) s
theorem u12_9 (F : Str → List D → R D) (G : Str → Option D) : localName ⟨F, fns1, G, B1, (fnAt P1 12).scope⟩ (Str.ofString "data_body") = true := ln_loc (by decide +kernel)
theorem u12_10 (F : Str → List D → R D) (G : Str → Option D) (s : PS) : nameD ⟨F, fns1, G, B1, (fnAt P1 12).scope⟩ s (Str.ofString "name") = getR (s.get (Str.ofString "name")) := nd_loc (by decide +kernel) s
theorem u12_11 (F : Str → List D → R D) (G : Str → Option D) : localName ⟨F, fns1, G, B1, (fnAt P1 12).scope⟩ (Str.ofString "name") = true := ln_loc (by decide +kernel)
theorem u12_12 (F : Str → List D → R D) (G : Str → Option D) (s : PS) : nameD ⟨F, fns1, G, B1, (fnAt P1 12).scope⟩ s (Str.ofString "body") = getR (s.get (Str.ofString "body")) := nd_loc (by decide +kernel) s
theorem u12_13 (F : Str → List D → R D) (G : Str → Option D) : localName ⟨F, fns1, G, B1, (fnAt P1 12).scope⟩ (Str.ofString "body") = true := ln_loc (by decide +kernel)
theorem u12_14 (F : Str → List D → R D) (G : Str → Option D) (s : PS) : nameD ⟨F, fns1, G, B1, (fnAt P1 12).scope⟩ s (Str.ofString "sound") = getR (s.get (Str.ofString "sound")) := nd_loc (by decide +kernel) s
theorem u12_15 (F : Str → List D → R D) (G : Str → Option D) : localName ⟨F, fns1, G, B1, (fnAt P1 12).scope⟩ (Str.ofString "sound") = true := ln_loc (by decide +kernel)
theorem u12_16 (F : Str → List D → R D) (G : Str → Option D) (s : PS) : nameD ⟨F, fns1, G, B1, (fnAt P1 12).scope⟩ s (Str.ofString "frame") = getR (s.get (Str.ofString "frame")) := nd_loc (by decide +kernel) s
theorem u12_17 (F : Str → List D → R D) (G : Str → Option D) : localName ⟨F, fns1, G, B1, (fnAt P1 12).scope⟩ (Str.ofString "frame") = true := ln_loc (by decide +kernel)
theorem u12_19 (F : Str → List D → R D) (G : Str → Option D) : calleeOk ⟨F, fns1, G, B1, (fnAt P1 12).scope⟩ (Str.ofString "read_chunks") = true := ca_glo (by decide +kernel)
theorem u12_20 (F : Str → List D → R D) (G : Str → Option D) : isVE ⟨F, fns1, G, B1, (fnAt P1 12).scope⟩ (Str.ofString "ValueError") = true := ve_glo (by decide +kernel)
theorem u12_22 (F : Str → List D → R D) (G : Str → Option D) : calleeOk ⟨F, fns1, G, B1, (fnAt P1 12).scope⟩ (Str.ofString "read_format") = true := ca_glo (by decide +kernel)
theorem u12_24 (F : Str → List D → R D) (G : Str → Option D) : calleeOk ⟨F, fns1, G, B1, (fnAt P1 12).scope⟩ (Str.ofString "len") = true := ca_glo (by decide +kernel)
theorem u18_0 (F : Str → List D → R D) (G : Str → Option D) (s : PS) : nameD ⟨F, fns1, G, B1, (fnAt P1 18).scope⟩ s (Str.ofString "n") = getR (s.get (Str.ofString "n")) := nd_loc (by decide +kernel) s
theorem u18_2 (F : Str → List D → R D) (G : Str → Option D) (s : PS) : nameD ⟨F, fns1, G, B1, (fnAt P1 18).scope⟩ s (Str.ofString "table") = getR (s.get (Str.ofString "table")) := nd_loc (by decide +kernel) s
theorem u18_5 (F : Str → List D → R D) (G : Str → Option D) : calleeOk ⟨F, fns1, G, B1, (fnAt P1 18).scope⟩ (Str.ofString "len") = true := ca_glo (by decide +kernel)
theorem u19_0 (F : Str → List D → R D) (G : Str → Option D) (s : PS) : nameD ⟨F, fns1, G, B1, (fnAt P1 19).scope⟩ s (Str.ofString "n") = getR (s.get (Str.ofString "n")) := nd_loc (by decide +kernel) s
theorem u20_0 (F : Str → List D → R D) (G : Str → Option D) (s : PS) : nameD ⟨F, fns1, G, B1, (fnAt P1 20).scope⟩ s (Str.ofString "n") = getR (s.get (Str.ofString "n")) := nd_loc (by decide +kernel) s
theorem u20_3 (F : Str → List D → R D) (G : Str → Option D) : calleeOk ⟨F, fns1, G, B1, (fnAt P1 20).scope⟩ (Str.ofString "bytes") = true := ca_glo (by decide +kernel)
theorem u21_0 (F : Str → List D → R D) (G : Str → Option D) (s : PS) : nameD ⟨F, fns1, G, B1, (fnAt P1 21).scope⟩ s (Str.ofString "n") = getR (s.get (Str.ofString "n")) := nd_loc (by decide +kernel) s
theorem u21_3 (F : Str → List D → R D) (G : Str → Option D) : calleeOk ⟨F, fns1, G, B1, (fnAt P1 21).scope⟩ (Str.ofString "bytes") = true := ca_glo (by decide +kernel)
theorem u23_0 (F : Str → List D → R D) (G : Str → Option D) (s : PS) : nameD ⟨F, fns1, G, B1, (fnAt P1 23).scope⟩ s (Str.ofString "data") = getR (s.get (Str.ofString "data")) := nd_loc (by decide +kernel) s
theorem u23_2 (F : Str → List D → R D) (G : Str → Option D) (s : PS) : nameD ⟨F, fns1, G, B1, (fnAt P1 23).scope⟩ s (Str.ofString "place") = getR (s.get (Str.ofString "place")) := nd_loc (by decide +kernel) s
theorem u23_4 (F : Str → List D → R D) (G : Str → Option D) (s : PS) : nameD ⟨F, fns1, G, B1, (fnAt P1 23).scope⟩ s (Str.ofString "turn") = getR (s.get (Str.ofString "turn")) := nd_loc (by decide +kernel) s
theorem u23_7 (F : Str → List D → R D) (G : Str → Option D) : calleeOk ⟨F, fns1, G, B1, (fnAt P1 23).scope⟩ (Str.ofString "bytes") = true := ca_glo (by decide +kernel)
theorem u24_0 (F : Str → List D → R D) (G : Str → Option D) (s : PS) : nameD ⟨F, fns1, G, B1, (fnAt P1 24).scope⟩ s (Str.ofString "where") = getR (s.get (Str.ofString "where")) := nd_loc (by decide +kernel) s
theorem u24_2 (F : Str → List D → R D) (G : Str → Option D) (s : PS) : nameD ⟨F, fns1, G, B1, (fnAt P1 24).scope⟩ s (Str.ofString "size") = getR (s.get (Str.ofString "size")) := nd_loc (by decide +kernel) s
theorem u24_4 (F : Str → List D → R D) (G : Str → Option D) (s : PS) : nameD ⟨F, fns1, G, B1, (fnAt P1 24).scope⟩ s (Str.ofString "place") = getR (s.get (Str.ofString "place")) := nd_loc (by decide +kernel) s
theorem u24_5 (F : Str → List D → R D) (G : Str → Option D) : localName ⟨F, fns1, G, B1, (fnAt P1 24).scope⟩ (Str.ofString "place") = true := ln_loc (by decide +kernel)
theorem u25_0 (F : Str → List D → R D) (G : Str → Option D) (s : PS) : nameD ⟨F, fns1, G, B1, (fnAt P1 25).scope⟩ s (Str.ofString "chunks") = getR (s.get (Str.ofString "chunks")) := nd_loc (by decide +kernel) s
theorem u25_1 (F : Str → List D → R D) (G : Str → Option D) : localName ⟨F, fns1, G, B1, (fnAt P1 25).scope⟩ (Str.ofString "chunks") = true := ln_loc (by decide +kernel)
theorem u25_2 (F : Str → List D → R D) (G : Str → Option D) (s : PS) : nameD ⟨F, fns1, G, B1, (fnAt P1 25).scope⟩ s (Str.ofString "spot") = getR (s.get (Str.ofString "spot")) := nd_loc (by decide +kernel) s
theorem u25_4 (F : Str → List D → R D) (G : Str → Option D) (s : PS) : nameD ⟨F, fns1, G, B1, (fnAt P1 25).scope⟩ s (Str.ofString "dirt") = getR (s.get (Str.ofString "dirt")) := nd_loc (by decide +kernel) s
theorem u25_6 (F : Str → List D → R D) (G : Str → Option D) (s : PS) : nameD ⟨F, fns1, G, B1, (fnAt P1 25).scope⟩ s (Str.ofString "inner") = getR (s.get (Str.ofString "inner")) := nd_loc (by decide +kernel) s
theorem u25_7 (F : Str → List D → R D) (G : Str → Option D) : localName ⟨F, fns1, G, B1, (fnAt P1 25).scope⟩ (Str.ofString "inner") = true := ln_loc (by decide +kernel)
theorem u25_8 (F : Str → List D → R D) (G : Str → Option D) (s : PS) : nameD ⟨F, fns1, G, B1, (fnAt P1 25).scope⟩ s (Str.ofString "at") = getR (s.get (Str.ofString "at")) := nd_loc (by decide +kernel) s
theorem u25_9 (F : Str → List D → R D) (G : Str → Option D) : localName ⟨F, fns1, G, B1, (fnAt P1 25).scope⟩ (Str.ofString "at") = true := ln_loc (by decide +kernel)
theorem u25_10 (F : Str → List D → R D) (G : Str → Option D) (s : PS) : nameD ⟨F, fns1, G, B1, (fnAt P1 25).scope⟩ s (Str.ofString "name") = getR (s.get (Str.ofString "name")) := nd_loc (by decide +kernel) s
theorem u25_11 (F : Str → List D → R D) (G : Str → Option D) : localName ⟨F, fns1, G, B1, (fnAt P1 25).scope⟩ (Str.ofString "name") = true := ln_loc (by decide +kernel)
theorem u25_12 (F : Str → List D → R D) (G : Str → Option D) (s : PS) : nameD ⟨F, fns1, G, B1, (fnAt P1 25).scope⟩ s (Str.ofString "body") = getR (s.get (Str.ofString "body")) := nd_loc (by decide +kernel) s
theorem u25_13 (F : Str → List D → R D) (G : Str → Option D) : localName ⟨F, fns1, G, B1, (fnAt P1 25).scope⟩ (Str.ofString "body") = true := ln_loc (by decide +kernel)
theorem u25_14 (F : Str → List D → R D) (G : Str → Option D) (s : PS) : nameD ⟨F, fns1, G, B1, (fnAt P1 25).scope⟩ s (Str.ofString "pad") = getR (s.get (Str.ofString "pad")) := nd_loc (by decide +kernel) s
theorem u25_15 (F : Str → List D → R D) (G : Str → Option D) : localName ⟨F, fns1, G, B1, (fnAt P1 25).scope⟩ (Str.ofString "pad") = true := ln_loc (by decide +kernel)
theorem u25_17 (F : Str → List D → R D) (G : Str → Option D) : calleeOk ⟨F, fns1, G, B1, (fnAt P1 25).scope⟩ (Str.ofString "_law_four") = true := ca_glo (by decide +kernel)
theorem u25_19 (F : Str → List D → R D) (G : Str → Option D) : calleeOk ⟨F, fns1, G, B1, (fnAt P1 25).scope⟩ (Str.ofString "len") = true := ca_glo (by decide +kernel)
theorem u25_21 (F : Str → List D → R D) (G : Str → Option D) : calleeOk ⟨F, fns1, G, B1, (fnAt P1 25).scope⟩ (Str.ofString "bytes") = true := ca_glo (by decide +kernel)
theorem u26_0 (F : Str → List D → R D) (G : Str → Option D) (s : PS) : nameD ⟨F, fns1, G, B1, (fnAt P1 26).scope⟩ s (Str.ofString "sound") = getR (s.get (Str.ofString "sound")) := nd_loc (by decide +kernel) s
theorem u26_2 (F : Str → List D → R D) (G : Str → Option D) (s : PS) : nameD ⟨F, fns1, G, B1, (fnAt P1 26).scope⟩ s (Str.ofString "channels") = getR (s.get (Str.ofString "channels")) := nd_loc (by decide +kernel) s
theorem u26_3 (F : Str → List D → R D) (G : Str → Option D) : localName ⟨F, fns1, G, B1, (fnAt P1 26).scope⟩ (Str.ofString "channels") = true := ln_loc (by decide +kernel)
theorem u26_4 (F : Str → List D → R D) (G : Str → Option D) (s : PS) : nameD ⟨F, fns1, G, B1, (fnAt P1 26).scope⟩ s (Str.ofString "rate") = getR (s.get (Str.ofString "rate")) := nd_loc (by decide +kernel) s
theorem u26_5 (F : Str → List D → R D) (G : Str → Option D) : localName ⟨F, fns1, G, B1, (fnAt P1 26).scope⟩ (Str.ofString "rate") = true := ln_loc (by decide +kernel)
theorem u26_6 (F : Str → List D → R D) (G : Str → Option D) (s : PS) : nameD ⟨F, fns1, G, B1, (fnAt P1 26).scope⟩ s (Str.ofString "bits") = getR (s.get (Str.ofString "bits")) := nd_loc (by decide +kernel) s
theorem u26_7 (F : Str → List D → R D) (G : Str → Option D) : localName ⟨F, fns1, G, B1, (fnAt P1 26).scope⟩ (Str.ofString "bits") = true := ln_loc (by decide +kernel)
theorem u26_8 (F : Str → List D → R D) (G : Str → Option D) (s : PS) : nameD ⟨F, fns1, G, B1, (fnAt P1 26).scope⟩ s (Str.ofString "frame") = getR (s.get (Str.ofString "frame")) := nd_loc (by decide +kernel) s
theorem u26_9 (F : Str → List D → R D) (G : Str → Option D) : localName ⟨F, fns1, G, B1, (fnAt P1 26).scope⟩ (Str.ofString "frame") = true := ln_loc (by decide +kernel)
theorem u27_0 (F : Str → List D → R D) (G : Str → Option D) (s : PS) : nameD ⟨F, fns1, G, B1, (fnAt P1 27).scope⟩ s (Str.ofString "sound") = getR (s.get (Str.ofString "sound")) := nd_loc (by decide +kernel) s
theorem u27_2 (F : Str → List D → R D) (G : Str → Option D) (s : PS) : nameD ⟨F, fns1, G, B1, (fnAt P1 27).scope⟩ s (Str.ofString "samples") = getR (s.get (Str.ofString "samples")) := nd_loc (by decide +kernel) s
theorem u27_5 (F : Str → List D → R D) (G : Str → Option D) : calleeOk ⟨F, fns1, G, B1, (fnAt P1 27).scope⟩ (Str.ofString "_law_sound_ok") = true := ca_glo (by decide +kernel)
theorem u27_7 (F : Str → List D → R D) (G : Str → Option D) : calleeOk ⟨F, fns1, G, B1, (fnAt P1 27).scope⟩ (Str.ofString "len") = true := ca_glo (by decide +kernel)
theorem u28_0 (F : Str → List D → R D) (G : Str → Option D) (s : PS) : nameD ⟨F, fns1, G, B1, (fnAt P1 28).scope⟩ s (Str.ofString "sound") = getR (s.get (Str.ofString "sound")) := nd_loc (by decide +kernel) s
theorem u28_2 (F : Str → List D → R D) (G : Str → Option D) (s : PS) : nameD ⟨F, fns1, G, B1, (fnAt P1 28).scope⟩ s (Str.ofString "samples") = getR (s.get (Str.ofString "samples")) := nd_loc (by decide +kernel) s
theorem u28_4 (F : Str → List D → R D) (G : Str → Option D) (s : PS) : nameD ⟨F, fns1, G, B1, (fnAt P1 28).scope⟩ s (Str.ofString "got") = getR (s.get (Str.ofString "got")) := nd_loc (by decide +kernel) s
theorem u28_5 (F : Str → List D → R D) (G : Str → Option D) : localName ⟨F, fns1, G, B1, (fnAt P1 28).scope⟩ (Str.ofString "got") = true := ln_loc (by decide +kernel)
theorem u28_7 (F : Str → List D → R D) (G : Str → Option D) : calleeOk ⟨F, fns1, G, B1, (fnAt P1 28).scope⟩ (Str.ofString "write_wav") = true := ca_glo (by decide +kernel)
theorem u28_8 (F : Str → List D → R D) (G : Str → Option D) : isVE ⟨F, fns1, G, B1, (fnAt P1 28).scope⟩ (Str.ofString "ValueError") = true := ve_glo (by decide +kernel)
theorem u29_0 (F : Str → List D → R D) (G : Str → Option D) (s : PS) : nameD ⟨F, fns1, G, B1, (fnAt P1 29).scope⟩ s (Str.ofString "data") = getR (s.get (Str.ofString "data")) := nd_loc (by decide +kernel) s
theorem u29_2 (F : Str → List D → R D) (G : Str → Option D) (s : PS) : nameD ⟨F, fns1, G, B1, (fnAt P1 29).scope⟩ s (Str.ofString "got") = getR (s.get (Str.ofString "got")) := nd_loc (by decide +kernel) s
theorem u29_3 (F : Str → List D → R D) (G : Str → Option D) : localName ⟨F, fns1, G, B1, (fnAt P1 29).scope⟩ (Str.ofString "got") = true := ln_loc (by decide +kernel)
theorem u29_5 (F : Str → List D → R D) (G : Str → Option D) : calleeOk ⟨F, fns1, G, B1, (fnAt P1 29).scope⟩ (Str.ofString "read_wav") = true := ca_glo (by decide +kernel)
theorem u29_6 (F : Str → List D → R D) (G : Str → Option D) : isVE ⟨F, fns1, G, B1, (fnAt P1 29).scope⟩ (Str.ofString "ValueError") = true := ve_glo (by decide +kernel)
theorem u30_0 (F : Str → List D → R D) (G : Str → Option D) (s : PS) : nameD ⟨F, fns1, G, B1, (fnAt P1 30).scope⟩ s (Str.ofString "chunks") = getR (s.get (Str.ofString "chunks")) := nd_loc (by decide +kernel) s
theorem u30_2 (F : Str → List D → R D) (G : Str → Option D) (s : PS) : nameD ⟨F, fns1, G, B1, (fnAt P1 30).scope⟩ s (Str.ofString "got") = getR (s.get (Str.ofString "got")) := nd_loc (by decide +kernel) s
theorem u30_3 (F : Str → List D → R D) (G : Str → Option D) : localName ⟨F, fns1, G, B1, (fnAt P1 30).scope⟩ (Str.ofString "got") = true := ln_loc (by decide +kernel)
theorem u30_5 (F : Str → List D → R D) (G : Str → Option D) : calleeOk ⟨F, fns1, G, B1, (fnAt P1 30).scope⟩ (Str.ofString "write_chunks") = true := ca_glo (by decide +kernel)
theorem u30_6 (F : Str → List D → R D) (G : Str → Option D) : isVE ⟨F, fns1, G, B1, (fnAt P1 30).scope⟩ (Str.ofString "ValueError") = true := ve_glo (by decide +kernel)
theorem u31_0 (F : Str → List D → R D) (G : Str → Option D) (s : PS) : nameD ⟨F, fns1, G, B1, (fnAt P1 31).scope⟩ s (Str.ofString "data") = getR (s.get (Str.ofString "data")) := nd_loc (by decide +kernel) s
theorem u31_2 (F : Str → List D → R D) (G : Str → Option D) (s : PS) : nameD ⟨F, fns1, G, B1, (fnAt P1 31).scope⟩ s (Str.ofString "got") = getR (s.get (Str.ofString "got")) := nd_loc (by decide +kernel) s
theorem u31_3 (F : Str → List D → R D) (G : Str → Option D) : localName ⟨F, fns1, G, B1, (fnAt P1 31).scope⟩ (Str.ofString "got") = true := ln_loc (by decide +kernel)
theorem u31_5 (F : Str → List D → R D) (G : Str → Option D) : calleeOk ⟨F, fns1, G, B1, (fnAt P1 31).scope⟩ (Str.ofString "read_chunks") = true := ca_glo (by decide +kernel)
theorem u31_6 (F : Str → List D → R D) (G : Str → Option D) : isVE ⟨F, fns1, G, B1, (fnAt P1 31).scope⟩ (Str.ofString "ValueError") = true := ve_glo (by decide +kernel)
theorem u32_0 (F : Str → List D → R D) (G : Str → Option D) (s : PS) : nameD ⟨F, fns1, G, B1, (fnAt P1 32).scope⟩ s (Str.ofString "got") = getR (s.get (Str.ofString "got")) := nd_loc (by decide +kernel) s
theorem u32_2 (F : Str → List D → R D) (G : Str → Option D) (s : PS) : nameD ⟨F, fns1, G, B1, (fnAt P1 32).scope⟩ s (Str.ofString "n") = getR (s.get (Str.ofString "n")) := nd_loc (by decide +kernel) s
theorem u32_3 (F : Str → List D → R D) (G : Str → Option D) : localName ⟨F, fns1, G, B1, (fnAt P1 32).scope⟩ (Str.ofString "n") = true := ln_loc (by decide +kernel)
theorem u32_5 (F : Str → List D → R D) (G : Str → Option D) : calleeOk ⟨F, fns1, G, B1, (fnAt P1 32).scope⟩ (Str.ofString "type") = true := ca_glo (by decide +kernel)
theorem u32_6 (F : Str → List D → R D) (G : Str → Option D) (s : PS) : nameD ⟨F, fns1, G, B1, (fnAt P1 32).scope⟩ s (Str.ofString "tuple") = getR (G (Str.ofString "tuple")) := nd_glo (by decide +kernel) s
theorem u32_7 (F : Str → List D → R D) (G : Str → Option D) (s : PS) : nameD ⟨F, fns1, G, B1, (fnAt P1 32).scope⟩ s (Str.ofString "int") = getR (G (Str.ofString "int")) := nd_glo (by decide +kernel) s
theorem u32_8 (F : Str → List D → R D) (G : Str → Option D) (s : PS) : nameD ⟨F, fns1, G, B1, (fnAt P1 32).scope⟩ s (Str.ofString "bytes") = getR (G (Str.ofString "bytes")) := nd_glo (by decide +kernel) s
theorem u33_0 (F : Str → List D → R D) (G : Str → Option D) (s : PS) : nameD ⟨F, fns1, G, B1, (fnAt P1 33).scope⟩ s (Str.ofString "parts") = getR (s.get (Str.ofString "parts")) := nd_loc (by decide +kernel) s
theorem u33_1 (F : Str → List D → R D) (G : Str → Option D) : localName ⟨F, fns1, G, B1, (fnAt P1 33).scope⟩ (Str.ofString "parts") = true := ln_loc (by decide +kernel)
theorem u33_2 (F : Str → List D → R D) (G : Str → Option D) (s : PS) : nameD ⟨F, fns1, G, B1, (fnAt P1 33).scope⟩ s (Str.ofString "pair") = getR (s.get (Str.ofString "pair")) := nd_loc (by decide +kernel) s
theorem u33_3 (F : Str → List D → R D) (G : Str → Option D) : localName ⟨F, fns1, G, B1, (fnAt P1 33).scope⟩ (Str.ofString "pair") = true := ln_loc (by decide +kernel)
theorem u33_4 (F : Str → List D → R D) (G : Str → Option D) (s : PS) : nameD ⟨F, fns1, G, B1, (fnAt P1 33).scope⟩ s (Str.ofString "piece") = getR (s.get (Str.ofString "piece")) := nd_loc (by decide +kernel) s
theorem u33_5 (F : Str → List D → R D) (G : Str → Option D) : localName ⟨F, fns1, G, B1, (fnAt P1 33).scope⟩ (Str.ofString "piece") = true := ln_loc (by decide +kernel)
theorem u33_7 (F : Str → List D → R D) (G : Str → Option D) : calleeOk ⟨F, fns1, G, B1, (fnAt P1 33).scope⟩ (Str.ofString "type") = true := ca_glo (by decide +kernel)
theorem u33_8 (F : Str → List D → R D) (G : Str → Option D) (s : PS) : nameD ⟨F, fns1, G, B1, (fnAt P1 33).scope⟩ s (Str.ofString "list") = getR (G (Str.ofString "list")) := nd_glo (by decide +kernel) s
theorem u33_9 (F : Str → List D → R D) (G : Str → Option D) (s : PS) : nameD ⟨F, fns1, G, B1, (fnAt P1 33).scope⟩ s (Str.ofString "tuple") = getR (G (Str.ofString "tuple")) := nd_glo (by decide +kernel) s
theorem u33_10 (F : Str → List D → R D) (G : Str → Option D) (s : PS) : nameD ⟨F, fns1, G, B1, (fnAt P1 33).scope⟩ s (Str.ofString "bytes") = getR (G (Str.ofString "bytes")) := nd_glo (by decide +kernel) s
theorem u34_0 (F : Str → List D → R D) (G : Str → Option D) (s : PS) : nameD ⟨F, fns1, G, B1, (fnAt P1 34).scope⟩ s (Str.ofString "shape") = getR (s.get (Str.ofString "shape")) := nd_loc (by decide +kernel) s
theorem u34_2 (F : Str → List D → R D) (G : Str → Option D) (s : PS) : nameD ⟨F, fns1, G, B1, (fnAt P1 34).scope⟩ s (Str.ofString "body") = getR (s.get (Str.ofString "body")) := nd_loc (by decide +kernel) s
theorem u34_4 (F : Str → List D → R D) (G : Str → Option D) (s : PS) : nameD ⟨F, fns1, G, B1, (fnAt P1 34).scope⟩ s (Str.ofString "samples") = getR (s.get (Str.ofString "samples")) := nd_loc (by decide +kernel) s
theorem u34_6 (F : Str → List D → R D) (G : Str → Option D) (s : PS) : nameD ⟨F, fns1, G, B1, (fnAt P1 34).scope⟩ s (Str.ofString "name") = getR (s.get (Str.ofString "name")) := nd_loc (by decide +kernel) s
theorem u34_8 (F : Str → List D → R D) (G : Str → Option D) (s : PS) : nameD ⟨F, fns1, G, B1, (fnAt P1 34).scope⟩ s (Str.ofString "other") = getR (s.get (Str.ofString "other")) := nd_loc (by decide +kernel) s
theorem u34_10 (F : Str → List D → R D) (G : Str → Option D) (s : PS) : nameD ⟨F, fns1, G, B1, (fnAt P1 34).scope⟩ s (Str.ofString "out") = getR (s.get (Str.ofString "out")) := nd_loc (by decide +kernel) s
theorem u34_11 (F : Str → List D → R D) (G : Str → Option D) : localName ⟨F, fns1, G, B1, (fnAt P1 34).scope⟩ (Str.ofString "out") = true := ln_loc (by decide +kernel)
theorem u34_12 (F : Str → List D → R D) (G : Str → Option D) (s : PS) : nameD ⟨F, fns1, G, B1, (fnAt P1 34).scope⟩ s (Str.ofString "mark") = getR (s.get (Str.ofString "mark")) := nd_loc (by decide +kernel) s
theorem u34_13 (F : Str → List D → R D) (G : Str → Option D) : localName ⟨F, fns1, G, B1, (fnAt P1 34).scope⟩ (Str.ofString "mark") = true := ln_loc (by decide +kernel)
theorem u35_0 (F : Str → List D → R D) (G : Str → Option D) (s : PS) : nameD ⟨F, fns1, G, B1, (fnAt P1 35).scope⟩ s (Str.ofString "script") = getR (s.get (Str.ofString "script")) := nd_loc (by decide +kernel) s
theorem u35_2 (F : Str → List D → R D) (G : Str → Option D) (s : PS) : nameD ⟨F, fns1, G, B1, (fnAt P1 35).scope⟩ s (Str.ofString "channels") = getR (s.get (Str.ofString "channels")) := nd_loc (by decide +kernel) s
theorem u35_3 (F : Str → List D → R D) (G : Str → Option D) : localName ⟨F, fns1, G, B1, (fnAt P1 35).scope⟩ (Str.ofString "channels") = true := ln_loc (by decide +kernel)
theorem u35_4 (F : Str → List D → R D) (G : Str → Option D) (s : PS) : nameD ⟨F, fns1, G, B1, (fnAt P1 35).scope⟩ s (Str.ofString "rate") = getR (s.get (Str.ofString "rate")) := nd_loc (by decide +kernel) s
theorem u35_5 (F : Str → List D → R D) (G : Str → Option D) : localName ⟨F, fns1, G, B1, (fnAt P1 35).scope⟩ (Str.ofString "rate") = true := ln_loc (by decide +kernel)
theorem u35_6 (F : Str → List D → R D) (G : Str → Option D) (s : PS) : nameD ⟨F, fns1, G, B1, (fnAt P1 35).scope⟩ s (Str.ofString "bits") = getR (s.get (Str.ofString "bits")) := nd_loc (by decide +kernel) s
theorem u35_7 (F : Str → List D → R D) (G : Str → Option D) : localName ⟨F, fns1, G, B1, (fnAt P1 35).scope⟩ (Str.ofString "bits") = true := ln_loc (by decide +kernel)
theorem u35_8 (F : Str → List D → R D) (G : Str → Option D) (s : PS) : nameD ⟨F, fns1, G, B1, (fnAt P1 35).scope⟩ s (Str.ofString "sound") = getR (s.get (Str.ofString "sound")) := nd_loc (by decide +kernel) s
theorem u35_9 (F : Str → List D → R D) (G : Str → Option D) : localName ⟨F, fns1, G, B1, (fnAt P1 35).scope⟩ (Str.ofString "sound") = true := ln_loc (by decide +kernel)
theorem u35_10 (F : Str → List D → R D) (G : Str → Option D) (s : PS) : nameD ⟨F, fns1, G, B1, (fnAt P1 35).scope⟩ s (Str.ofString "heard") = getR (s.get (Str.ofString "heard")) := nd_loc (by decide +kernel) s
theorem u35_11 (F : Str → List D → R D) (G : Str → Option D) : localName ⟨F, fns1, G, B1, (fnAt P1 35).scope⟩ (Str.ofString "heard") = true := ln_loc (by decide +kernel)
theorem u35_12 (F : Str → List D → R D) (G : Str → Option D) (s : PS) : nameD ⟨F, fns1, G, B1, (fnAt P1 35).scope⟩ s (Str.ofString "frame") = getR (s.get (Str.ofString "frame")) := nd_loc (by decide +kernel) s
theorem u35_13 (F : Str → List D → R D) (G : Str → Option D) : localName ⟨F, fns1, G, B1, (fnAt P1 35).scope⟩ (Str.ofString "frame") = true := ln_loc (by decide +kernel)
theorem u35_14 (F : Str → List D → R D) (G : Str → Option D) (s : PS) : nameD ⟨F, fns1, G, B1, (fnAt P1 35).scope⟩ s (Str.ofString "size") = getR (s.get (Str.ofString "size")) := nd_loc (by decide +kernel) s
theorem u35_15 (F : Str → List D → R D) (G : Str → Option D) : localName ⟨F, fns1, G, B1, (fnAt P1 35).scope⟩ (Str.ofString "size") = true := ln_loc (by decide +kernel)
theorem u35_16 (F : Str → List D → R D) (G : Str → Option D) (s : PS) : nameD ⟨F, fns1, G, B1, (fnAt P1 35).scope⟩ s (Str.ofString "seed") = getR (s.get (Str.ofString "seed")) := nd_loc (by decide +kernel) s
theorem u35_17 (F : Str → List D → R D) (G : Str → Option D) : localName ⟨F, fns1, G, B1, (fnAt P1 35).scope⟩ (Str.ofString "seed") = true := ln_loc (by decide +kernel)
theorem u35_18 (F : Str → List D → R D) (G : Str → Option D) (s : PS) : nameD ⟨F, fns1, G, B1, (fnAt P1 35).scope⟩ s (Str.ofString "samples") = getR (s.get (Str.ofString "samples")) := nd_loc (by decide +kernel) s
theorem u35_19 (F : Str → List D → R D) (G : Str → Option D) : localName ⟨F, fns1, G, B1, (fnAt P1 35).scope⟩ (Str.ofString "samples") = true := ln_loc (by decide +kernel)
theorem u35_20 (F : Str → List D → R D) (G : Str → Option D) (s : PS) : nameD ⟨F, fns1, G, B1, (fnAt P1 35).scope⟩ s (Str.ofString "head") = getR (s.get (Str.ofString "head")) := nd_loc (by decide +kernel) s
theorem u35_21 (F : Str → List D → R D) (G : Str → Option D) : localName ⟨F, fns1, G, B1, (fnAt P1 35).scope⟩ (Str.ofString "head") = true := ln_loc (by decide +kernel)
theorem u35_22 (F : Str → List D → R D) (G : Str → Option D) (s : PS) : nameD ⟨F, fns1, G, B1, (fnAt P1 35).scope⟩ s (Str.ofString "canon") = getR (s.get (Str.ofString "canon")) := nd_loc (by decide +kernel) s
theorem u35_23 (F : Str → List D → R D) (G : Str → Option D) : localName ⟨F, fns1, G, B1, (fnAt P1 35).scope⟩ (Str.ofString "canon") = true := ln_loc (by decide +kernel)
theorem u35_24 (F : Str → List D → R D) (G : Str → Option D) (s : PS) : nameD ⟨F, fns1, G, B1, (fnAt P1 35).scope⟩ s (Str.ofString "written") = getR (s.get (Str.ofString "written")) := nd_loc (by decide +kernel) s
theorem u35_25 (F : Str → List D → R D) (G : Str → Option D) : localName ⟨F, fns1, G, B1, (fnAt P1 35).scope⟩ (Str.ofString "written") = true := ln_loc (by decide +kernel)
theorem u35_26 (F : Str → List D → R D) (G : Str → Option D) (s : PS) : nameD ⟨F, fns1, G, B1, (fnAt P1 35).scope⟩ s (Str.ofString "fault") = getR (s.get (Str.ofString "fault")) := nd_loc (by decide +kernel) s
theorem u35_27 (F : Str → List D → R D) (G : Str → Option D) : localName ⟨F, fns1, G, B1, (fnAt P1 35).scope⟩ (Str.ofString "fault") = true := ln_loc (by decide +kernel)
theorem u35_28 (F : Str → List D → R D) (G : Str → Option D) (s : PS) : nameD ⟨F, fns1, G, B1, (fnAt P1 35).scope⟩ s (Str.ofString "place") = getR (s.get (Str.ofString "place")) := nd_loc (by decide +kernel) s
theorem u35_29 (F : Str → List D → R D) (G : Str → Option D) : localName ⟨F, fns1, G, B1, (fnAt P1 35).scope⟩ (Str.ofString "place") = true := ln_loc (by decide +kernel)
theorem u35_30 (F : Str → List D → R D) (G : Str → Option D) (s : PS) : nameD ⟨F, fns1, G, B1, (fnAt P1 35).scope⟩ s (Str.ofString "body") = getR (s.get (Str.ofString "body")) := nd_loc (by decide +kernel) s
theorem u35_31 (F : Str → List D → R D) (G : Str → Option D) : localName ⟨F, fns1, G, B1, (fnAt P1 35).scope⟩ (Str.ofString "body") = true := ln_loc (by decide +kernel)
theorem u35_32 (F : Str → List D → R D) (G : Str → Option D) (s : PS) : nameD ⟨F, fns1, G, B1, (fnAt P1 35).scope⟩ s (Str.ofString "sane") = getR (s.get (Str.ofString "sane")) := nd_loc (by decide +kernel) s
theorem u35_33 (F : Str → List D → R D) (G : Str → Option D) : localName ⟨F, fns1, G, B1, (fnAt P1 35).scope⟩ (Str.ofString "sane") = true := ln_loc (by decide +kernel)
theorem u35_34 (F : Str → List D → R D) (G : Str → Option D) (s : PS) : nameD ⟨F, fns1, G, B1, (fnAt P1 35).scope⟩ s (Str.ofString "shape") = getR (s.get (Str.ofString "shape")) := nd_loc (by decide +kernel) s
theorem u35_35 (F : Str → List D → R D) (G : Str → Option D) : localName ⟨F, fns1, G, B1, (fnAt P1 35).scope⟩ (Str.ofString "shape") = true := ln_loc (by decide +kernel)
theorem u35_36 (F : Str → List D → R D) (G : Str → Option D) (s : PS) : nameD ⟨F, fns1, G, B1, (fnAt P1 35).scope⟩ s (Str.ofString "name") = getR (s.get (Str.ofString "name")) := nd_loc (by decide +kernel) s
theorem u35_37 (F : Str → List D → R D) (G : Str → Option D) : localName ⟨F, fns1, G, B1, (fnAt P1 35).scope⟩ (Str.ofString "name") = true := ln_loc (by decide +kernel)
theorem u35_38 (F : Str → List D → R D) (G : Str → Option D) (s : PS) : nameD ⟨F, fns1, G, B1, (fnAt P1 35).scope⟩ s (Str.ofString "other") = getR (s.get (Str.ofString "other")) := nd_loc (by decide +kernel) s
theorem u35_39 (F : Str → List D → R D) (G : Str → Option D) : localName ⟨F, fns1, G, B1, (fnAt P1 35).scope⟩ (Str.ofString "other") = true := ln_loc (by decide +kernel)
theorem u35_40 (F : Str → List D → R D) (G : Str → Option D) (s : PS) : nameD ⟨F, fns1, G, B1, (fnAt P1 35).scope⟩ s (Str.ofString "chunks") = getR (s.get (Str.ofString "chunks")) := nd_loc (by decide +kernel) s
theorem u35_41 (F : Str → List D → R D) (G : Str → Option D) : localName ⟨F, fns1, G, B1, (fnAt P1 35).scope⟩ (Str.ofString "chunks") = true := ln_loc (by decide +kernel)
theorem u35_42 (F : Str → List D → R D) (G : Str → Option D) (s : PS) : nameD ⟨F, fns1, G, B1, (fnAt P1 35).scope⟩ s (Str.ofString "twin") = getR (s.get (Str.ofString "twin")) := nd_loc (by decide +kernel) s
theorem u35_43 (F : Str → List D → R D) (G : Str → Option D) : localName ⟨F, fns1, G, B1, (fnAt P1 35).scope⟩ (Str.ofString "twin") = true := ln_loc (by decide +kernel)
theorem u35_44 (F : Str → List D → R D) (G : Str → Option D) (s : PS) : nameD ⟨F, fns1, G, B1, (fnAt P1 35).scope⟩ s (Str.ofString "made") = getR (s.get (Str.ofString "made")) := nd_loc (by decide +kernel) s
theorem u35_45 (F : Str → List D → R D) (G : Str → Option D) : localName ⟨F, fns1, G, B1, (fnAt P1 35).scope⟩ (Str.ofString "made") = true := ln_loc (by decide +kernel)
theorem u35_46 (F : Str → List D → R D) (G : Str → Option D) (s : PS) : nameD ⟨F, fns1, G, B1, (fnAt P1 35).scope⟩ s (Str.ofString "raw") = getR (s.get (Str.ofString "raw")) := nd_loc (by decide +kernel) s
theorem u35_47 (F : Str → List D → R D) (G : Str → Option D) : localName ⟨F, fns1, G, B1, (fnAt P1 35).scope⟩ (Str.ofString "raw") = true := ln_loc (by decide +kernel)
theorem u35_48 (F : Str → List D → R D) (G : Str → Option D) (s : PS) : nameD ⟨F, fns1, G, B1, (fnAt P1 35).scope⟩ s (Str.ofString "harm") = getR (s.get (Str.ofString "harm")) := nd_loc (by decide +kernel) s
theorem u35_49 (F : Str → List D → R D) (G : Str → Option D) : localName ⟨F, fns1, G, B1, (fnAt P1 35).scope⟩ (Str.ofString "harm") = true := ln_loc (by decide +kernel)
theorem u35_50 (F : Str → List D → R D) (G : Str → Option D) (s : PS) : nameD ⟨F, fns1, G, B1, (fnAt P1 35).scope⟩ s (Str.ofString "where") = getR (s.get (Str.ofString "where")) := nd_loc (by decide +kernel) s
theorem u35_51 (F : Str → List D → R D) (G : Str → Option D) : localName ⟨F, fns1, G, B1, (fnAt P1 35).scope⟩ (Str.ofString "where") = true := ln_loc (by decide +kernel)
theorem u35_52 (F : Str → List D → R D) (G : Str → Option D) (s : PS) : nameD ⟨F, fns1, G, B1, (fnAt P1 35).scope⟩ s (Str.ofString "turn") = getR (s.get (Str.ofString "turn")) := nd_loc (by decide +kernel) s
theorem u35_53 (F : Str → List D → R D) (G : Str → Option D) : localName ⟨F, fns1, G, B1, (fnAt P1 35).scope⟩ (Str.ofString "turn") = true := ln_loc (by decide +kernel)
theorem u35_54 (F : Str → List D → R D) (G : Str → Option D) (s : PS) : nameD ⟨F, fns1, G, B1, (fnAt P1 35).scope⟩ s (Str.ofString "shown") = getR (s.get (Str.ofString "shown")) := nd_loc (by decide +kernel) s
theorem u35_55 (F : Str → List D → R D) (G : Str → Option D) : localName ⟨F, fns1, G, B1, (fnAt P1 35).scope⟩ (Str.ofString "shown") = true := ln_loc (by decide +kernel)
theorem u35_56 (F : Str → List D → R D) (G : Str → Option D) (s : PS) : nameD ⟨F, fns1, G, B1, (fnAt P1 35).scope⟩ s (Str.ofString "keep") = getR (s.get (Str.ofString "keep")) := nd_loc (by decide +kernel) s
theorem u35_57 (F : Str → List D → R D) (G : Str → Option D) : localName ⟨F, fns1, G, B1, (fnAt P1 35).scope⟩ (Str.ofString "keep") = true := ln_loc (by decide +kernel)
theorem u35_58 (F : Str → List D → R D) (G : Str → Option D) (s : PS) : nameD ⟨F, fns1, G, B1, (fnAt P1 35).scope⟩ s (Str.ofString "count") = getR (s.get (Str.ofString "count")) := nd_loc (by decide +kernel) s
theorem u35_59 (F : Str → List D → R D) (G : Str → Option D) : localName ⟨F, fns1, G, B1, (fnAt P1 35).scope⟩ (Str.ofString "count") = true := ln_loc (by decide +kernel)
theorem u35_60 (F : Str → List D → R D) (G : Str → Option D) (s : PS) : nameD ⟨F, fns1, G, B1, (fnAt P1 35).scope⟩ s (Str.ofString "n") = getR (s.get (Str.ofString "n")) := nd_loc (by decide +kernel) s
theorem u35_61 (F : Str → List D → R D) (G : Str → Option D) : localName ⟨F, fns1, G, B1, (fnAt P1 35).scope⟩ (Str.ofString "n") = true := ln_loc (by decide +kernel)
theorem u35_62 (F : Str → List D → R D) (G : Str → Option D) (s : PS) : nameD ⟨F, fns1, G, B1, (fnAt P1 35).scope⟩ s (Str.ofString "parts") = getR (s.get (Str.ofString "parts")) := nd_loc (by decide +kernel) s
theorem u35_63 (F : Str → List D → R D) (G : Str → Option D) : localName ⟨F, fns1, G, B1, (fnAt P1 35).scope⟩ (Str.ofString "parts") = true := ln_loc (by decide +kernel)
theorem u35_64 (F : Str → List D → R D) (G : Str → Option D) (s : PS) : nameD ⟨F, fns1, G, B1, (fnAt P1 35).scope⟩ s (Str.ofString "due") = getR (s.get (Str.ofString "due")) := nd_loc (by decide +kernel) s
theorem u35_65 (F : Str → List D → R D) (G : Str → Option D) : localName ⟨F, fns1, G, B1, (fnAt P1 35).scope⟩ (Str.ofString "due") = true := ln_loc (by decide +kernel)
theorem u35_66 (F : Str → List D → R D) (G : Str → Option D) (s : PS) : nameD ⟨F, fns1, G, B1, (fnAt P1 35).scope⟩ s (Str.ofString "got") = getR (s.get (Str.ofString "got")) := nd_loc (by decide +kernel) s
theorem u35_67 (F : Str → List D → R D) (G : Str → Option D) : localName ⟨F, fns1, G, B1, (fnAt P1 35).scope⟩ (Str.ofString "got") = true := ln_loc (by decide +kernel)
theorem u35_69 (F : Str → List D → R D) (G : Str → Option D) : calleeOk ⟨F, fns1, G, B1, (fnAt P1 35).scope⟩ (Str.ofString "len") = true := ca_glo (by decide +kernel)
theorem u35_71 (F : Str → List D → R D) (G : Str → Option D) : calleeOk ⟨F, fns1, G, B1, (fnAt P1 35).scope⟩ (Str.ofString "_law_pick") = true := ca_glo (by decide +kernel)
theorem u35_72 (F : Str → List D → R D) (G : Str → Option D) (s : PS) : nameD ⟨F, fns1, G, B1, (fnAt P1 35).scope⟩ s (Str.ofString "_law_CHANNELS") = getR (G (Str.ofString "_law_CHANNELS")) := nd_glo (by decide +kernel) s
theorem u35_73 (F : Str → List D → R D) (G : Str → Option D) (s : PS) : nameD ⟨F, fns1, G, B1, (fnAt P1 35).scope⟩ s (Str.ofString "_law_RATES") = getR (G (Str.ofString "_law_RATES")) := nd_glo (by decide +kernel) s
theorem u35_74 (F : Str → List D → R D) (G : Str → Option D) (s : PS) : nameD ⟨F, fns1, G, B1, (fnAt P1 35).scope⟩ s (Str.ofString "_law_BITS") = getR (G (Str.ofString "_law_BITS")) := nd_glo (by decide +kernel) s
theorem u35_76 (F : Str → List D → R D) (G : Str → Option D) : calleeOk ⟨F, fns1, G, B1, (fnAt P1 35).scope⟩ (Str.ofString "_law_bytes") = true := ca_glo (by decide +kernel)
theorem u35_78 (F : Str → List D → R D) (G : Str → Option D) : calleeOk ⟨F, fns1, G, B1, (fnAt P1 35).scope⟩ (Str.ofString "_law_two") = true := ca_glo (by decide +kernel)
theorem u35_80 (F : Str → List D → R D) (G : Str → Option D) : calleeOk ⟨F, fns1, G, B1, (fnAt P1 35).scope⟩ (Str.ofString "_law_four") = true := ca_glo (by decide +kernel)
theorem u35_82 (F : Str → List D → R D) (G : Str → Option D) : calleeOk ⟨F, fns1, G, B1, (fnAt P1 35).scope⟩ (Str.ofString "_law_plain") = true := ca_glo (by decide +kernel)
theorem u35_84 (F : Str → List D → R D) (G : Str → Option D) : calleeOk ⟨F, fns1, G, B1, (fnAt P1 35).scope⟩ (Str.ofString "_law_save") = true := ca_glo (by decide +kernel)
theorem u35_86 (F : Str → List D → R D) (G : Str → Option D) : calleeOk ⟨F, fns1, G, B1, (fnAt P1 35).scope⟩ (Str.ofString "_law_fits") = true := ca_glo (by decide +kernel)
theorem u35_88 (F : Str → List D → R D) (G : Str → Option D) : calleeOk ⟨F, fns1, G, B1, (fnAt P1 35).scope⟩ (Str.ofString "type") = true := ca_glo (by decide +kernel)
theorem u35_89 (F : Str → List D → R D) (G : Str → Option D) (s : PS) : nameD ⟨F, fns1, G, B1, (fnAt P1 35).scope⟩ s (Str.ofString "bytes") = getR (G (Str.ofString "bytes")) := nd_glo (by decide +kernel) s
theorem u35_92 (F : Str → List D → R D) (G : Str → Option D) : calleeOk ⟨F, fns1, G, B1, (fnAt P1 35).scope⟩ (Str.ofString "_law_open") = true := ca_glo (by decide +kernel)
theorem u35_94 (F : Str → List D → R D) (G : Str → Option D) : calleeOk ⟨F, fns1, G, B1, (fnAt P1 35).scope⟩ (Str.ofString "_law_sound_ok") = true := ca_glo (by decide +kernel)
theorem u35_96 (F : Str → List D → R D) (G : Str → Option D) : calleeOk ⟨F, fns1, G, B1, (fnAt P1 35).scope⟩ (Str.ofString "_law_turned") = true := ca_glo (by decide +kernel)
theorem u35_97 (F : Str → List D → R D) (G : Str → Option D) (s : PS) : nameD ⟨F, fns1, G, B1, (fnAt P1 35).scope⟩ s (Str.ofString "_law_SHAPES") = getR (G (Str.ofString "_law_SHAPES")) := nd_glo (by decide +kernel) s
theorem u35_99 (F : Str → List D → R D) (G : Str → Option D) : calleeOk ⟨F, fns1, G, B1, (fnAt P1 35).scope⟩ (Str.ofString "_law_name") = true := ca_glo (by decide +kernel)
theorem u35_101 (F : Str → List D → R D) (G : Str → Option D) : calleeOk ⟨F, fns1, G, B1, (fnAt P1 35).scope⟩ (Str.ofString "_law_chunks") = true := ca_glo (by decide +kernel)
theorem u35_103 (F : Str → List D → R D) (G : Str → Option D) : calleeOk ⟨F, fns1, G, B1, (fnAt P1 35).scope⟩ (Str.ofString "_law_join") = true := ca_glo (by decide +kernel)
theorem u35_105 (F : Str → List D → R D) (G : Str → Option D) : calleeOk ⟨F, fns1, G, B1, (fnAt P1 35).scope⟩ (Str.ofString "_law_place") = true := ca_glo (by decide +kernel)
theorem u35_106 (F : Str → List D → R D) (G : Str → Option D) : (Cfg.kind ⟨F, fns1, G, B1, (fnAt P1 35).scope⟩ (Str.ofString "range") == some NameKind.globalImplicit) = true := (show ((fnAt P1 35).scope.names.lookup (Str.ofString "range") == some NameKind.globalImplicit) = true by decide +kernel)
theorem u35_108 (F : Str → List D → R D) (G : Str → Option D) : calleeOk ⟨F, fns1, G, B1, (fnAt P1 35).scope⟩ (Str.ofString "_law_split") = true := ca_glo (by decide +kernel)
theorem u35_110 (F : Str → List D → R D) (G : Str → Option D) : calleeOk ⟨F, fns1, G, B1, (fnAt P1 35).scope⟩ (Str.ofString "_law_parts_typed") = true := ca_glo (by decide +kernel)
theorem u35_112 (F : Str → List D → R D) (G : Str → Option D) : calleeOk ⟨F, fns1, G, B1, (fnAt P1 35).scope⟩ (Str.ofString "_law_typed") = true := ca_glo (by decide +kernel)
end
end Mine
namespace Mine
section
open PySem

noncomputable def le2 (n : Int) : List UInt8 := [byte (n % 256), byte (n / 256 % 256)]
noncomputable def le4 (n : Int) : List UInt8 := [byte (n % 256), byte (n / 256 % 256), byte (n / 65536 % 256), byte (n / 16777216 % 256)]
theorem mod_in (n : Int) : 0 ≤ n % 256 ∧ n % 256 < 256 := by (first | lia | omega)

theorem ev_wu2 (k : Nat) (v : Int) (h0 : 0 ≤ v) (h1 : v < 65536) : Fk Q1 (k + 1) (Str.ofString "_write_uint") [.int v, .int 2] = .ok (.bytes (le2 v)) := by
  rw [Fk_at (fnAt P1 1) (by rw [nat_Q1]; rfl) fnd1_1 ⟨rfl, by simp⟩]
  rw [show (fnAt P1 1).xs = [Str.ofString "value", Str.ofString "size"] from rfl]
  rw [show Q1.fns = fns1 from rfl, show Q1.G = G1 from rfl, show Q1.B = B1 from rfl]
  conv in (fnAt P1 1).body => whnf
  have c1 : decide (v < 0) = false := by simp; (first | lia | omega)
  have c2 : decide (65536 ≤ v) = false := by simp; (first | lia | omega)
  have c4 : rangeD 2 = [.int 0, .int 1] := rfl
  simp +decide only [getR_some, get_n, bind_ok, e_const, e_name, e_bin, e_call, es_nil, es_cons, c_int, b_div, b_mod, b_pow, m_lt, m_ge, isB, k_bytes, t_bool, ts_orN, ts_or, orO_f, t_cmp, ch_one, ss_nil, ss_cons, seq_next, seq_ret, s_if, ifO_f, s_ret, retO_ok, asgO_ok, ofS_some, a_name, s_own, ownO_ok, s_app, appO_ok, s_for, forR_ok, for_nil, for_cons, forA_some, forB_next, i_range, itR_int, String.reduceEq, decide_false, Bool.and_true, Bool.not_false, beq_self_eq_true, lm_one, ns_nil, ns_cons, ns_Name, bm_Constant, bm_BinOp, ns_BinOp, List.length_cons, List.length_nil, Nat.reduceAdd, Nat.zero_add, nl_int, nls_nil, bytesD_l, bytR_some, by_nil, by_cons, outR_ret, Option.map_some, and_self, List.zip_cons_cons, List.zip_nil_right, List.nil_append, List.cons_append, Int.reduceNeg, Int.reduceLE, Int.reduceLT, ge_iff_le, Int.reduceToNat, Int.reducePow, sh0, sh1, sh2, sh3, sh4, sh5, sh6, sh7, sh8, sh9, sh10, sh11, sh12, sh13, s_asgNm, s_asgB, u1_0, u1_2, u1_4, u1_5, u1_6, u1_7, u1_9, bb29, u1_12, bb25, u1_14, c1, c2, c4, mod_in]
  rfl
theorem ev_wu4 (k : Nat) (v : Int) (h0 : 0 ≤ v) (h1 : v < 4294967296) : Fk Q1 (k + 1) (Str.ofString "_write_uint") [.int v, .int 4] = .ok (.bytes (le4 v)) := by
  rw [Fk_at (fnAt P1 1) (by rw [nat_Q1]; rfl) fnd1_1 ⟨rfl, by simp⟩]
  rw [show (fnAt P1 1).xs = [Str.ofString "value", Str.ofString "size"] from rfl]
  rw [show Q1.fns = fns1 from rfl, show Q1.G = G1 from rfl, show Q1.B = B1 from rfl]
  conv in (fnAt P1 1).body => whnf
  have c1 : decide (v < 0) = false := by simp; (first | lia | omega)
  have c2 : decide (4294967296 ≤ v) = false := by simp; (first | lia | omega)
  have c4 : rangeD 4 = [.int 0, .int 1, .int 2, .int 3] := rfl
  simp +decide only [getR_some, get_n, bind_ok, e_const, e_name, e_bin, e_call, es_nil, es_cons, c_int, b_div, b_mod, b_pow, m_lt, m_ge, isB, k_bytes, t_bool, ts_orN, ts_or, orO_f, t_cmp, ch_one, ss_nil, ss_cons, seq_next, seq_ret, s_if, ifO_f, s_ret, retO_ok, asgO_ok, ofS_some, a_name, s_own, ownO_ok, s_app, appO_ok, s_for, forR_ok, for_nil, for_cons, forA_some, forB_next, i_range, itR_int, String.reduceEq, decide_false, Bool.and_true, Bool.not_false, beq_self_eq_true, lm_one, ns_nil, ns_cons, ns_Name, bm_Constant, bm_BinOp, ns_BinOp, List.length_cons, List.length_nil, Nat.reduceAdd, Nat.zero_add, nl_int, nls_nil, bytesD_l, bytR_some, by_nil, by_cons, outR_ret, Option.map_some, and_self, List.zip_cons_cons, List.zip_nil_right, List.nil_append, List.cons_append, Int.reduceNeg, Int.reduceLE, Int.reduceLT, ge_iff_le, Int.reduceToNat, Int.reducePow, sh0, sh1, sh2, sh3, sh4, sh5, sh6, sh7, sh8, sh9, sh10, sh11, sh12, sh13, s_asgNm, s_asgB, u1_0, u1_2, u1_4, u1_5, u1_6, u1_7, u1_9, bb29, u1_12, bb25, u1_14, c1, c2, c4, mod_in]
  unfold le4
  rw [show v / 256 / 256 = v / 65536 by (first | lia | omega), show v / 65536 / 256 = v / 16777216 by (first | lia | omega)]

noncomputable def u2 (l : List UInt8) (s : Nat) : Int := rd l s + 256 * rd l (s + 1)
noncomputable def u4 (l : List UInt8) (s : Nat) : Int := rd l s + 256 * rd l (s + 1) + 65536 * rd l (s + 2) + 16777216 * rd l (s + 3)
theorem ev_ru2g (k : Nat) (l : List UInt8) (s a0 a1 : Int) (x1 : idxD (.bytes l) (.int (s + 1)) = .ok (.int a1)) (x0 : idxD (.bytes l) (.int (s + 0)) = .ok (.int a0)) :
    Fk Q1 (k + 1) (Str.ofString "_read_uint") [.bytes l, .int s, .int 2] = .ok (.int ((0 + a1) * 256 + a0)) := by
  rw [Fk_at (fnAt P1 2) (by rw [nat_Q1]; rfl) fnd1_2 ⟨rfl, by simp⟩]
  rw [show (fnAt P1 2).xs = [Str.ofString "data", Str.ofString "start", Str.ofString "size"] from rfl]
  rw [show Q1.fns = fns1 from rfl, show Q1.G = G1 from rfl, show Q1.B = B1 from rfl]
  conv in (fnAt P1 2).body => whnf
  obtain ⟨k0, hk0⟩ : ∃ k0, k0 + 5 = 500 := ⟨495, rfl⟩
  simp +decide only [getR_some, get_n, set_n, bind_ok, e_const, e_name, e_bin, e_subB, c_int, b_add, b_sub, b_mul, m_ge, t_cmp, ch_one, ss_nil, ss_cons, seq_next, seq_ret, s_ret, retO_ok, asgO_ok, ofS_some, a_name, whT_t, whT_f, whB_next, decide_true, decide_false, lm_one, bm_Constant, outR_ret, and_self, or_true, List.zip_cons_cons, List.zip_nil_right, Int.reduceSub, Int.reduceNeg, Int.reduceMul, sh14, sh15, sh16, sh17, sh18, sh19, sh20, sh21, sh22, s_asgC, s_asgB, u2_0, u2_2, u2_4, u2_6, u2_7, u2_8, u2_9, x1, x0, wh_step, s_whk (h := hk0)]
theorem ev_ru4g (k : Nat) (l : List UInt8) (s a0 a1 a2 a3 : Int) (x3 : idxD (.bytes l) (.int (s + 3)) = .ok (.int a3)) (x2 : idxD (.bytes l) (.int (s + 2)) = .ok (.int a2)) (x1 : idxD (.bytes l) (.int (s + 1)) = .ok (.int a1)) (x0 : idxD (.bytes l) (.int (s + 0)) = .ok (.int a0)) :
    Fk Q1 (k + 1) (Str.ofString "_read_uint") [.bytes l, .int s, .int 4] = .ok (.int ((((0 + a3) * 256 + a2) * 256 + a1) * 256 + a0)) := by
  rw [Fk_at (fnAt P1 2) (by rw [nat_Q1]; rfl) fnd1_2 ⟨rfl, by simp⟩]
  rw [show (fnAt P1 2).xs = [Str.ofString "data", Str.ofString "start", Str.ofString "size"] from rfl]
  rw [show Q1.fns = fns1 from rfl, show Q1.G = G1 from rfl, show Q1.B = B1 from rfl]
  conv in (fnAt P1 2).body => whnf
  obtain ⟨k0, hk0⟩ : ∃ k0, k0 + 5 = 500 := ⟨495, rfl⟩
  simp +decide only [getR_some, get_n, set_n, bind_ok, e_const, e_name, e_bin, e_subB, c_int, b_add, b_sub, b_mul, m_ge, t_cmp, ch_one, ss_nil, ss_cons, seq_next, seq_ret, s_ret, retO_ok, asgO_ok, ofS_some, a_name, whT_t, whT_f, whB_next, decide_true, decide_false, lm_one, bm_Constant, outR_ret, and_self, or_true, List.zip_cons_cons, List.zip_nil_right, Int.reduceSub, Int.reduceNeg, Int.reduceMul, sh14, sh15, sh16, sh17, sh18, sh19, sh20, sh21, sh22, s_asgC, s_asgB, u2_0, u2_2, u2_4, u2_6, u2_7, u2_8, u2_9, x3, x2, x1, x0, wh_step, s_whk (h := hk0)]
theorem x_at (l : List UInt8) (s i : Nat) (h0 : s + i < l.length) (h1 : l.length ≤ line) : idxD (.bytes l) (.int ((s : Int) + (i : Int))) = .ok (.int (rd l (s + i))) := by
  rw [x_bytes l _ ⟨by (first | lia | omega), by (first | lia | omega), h1⟩, show ((s : Int) + (i : Int)).toNat = s + i by (first | lia | omega)]
theorem ev_ru2 (k : Nat) (l : List UInt8) (s : Nat) (h0 : s + 2 ≤ l.length) (h1 : l.length ≤ line) : Fk Q1 (k + 1) (Str.ofString "_read_uint") [.bytes l, .int s, .int 2] = .ok (.int (u2 l s)) := by
  rw [ev_ru2g k l s _ _ (x_at l s 1 (by (first | lia | omega)) h1) (x_at l s 0 (by (first | lia | omega)) h1)]
  unfold u2
  congr 2
  show (0 + rd l (s + 1)) * 256 + rd l s = _
  (first | lia | omega)
theorem ev_ru4 (k : Nat) (l : List UInt8) (s : Nat) (h0 : s + 4 ≤ l.length) (h1 : l.length ≤ line) : Fk Q1 (k + 1) (Str.ofString "_read_uint") [.bytes l, .int s, .int 4] = .ok (.int (u4 l s)) := by
  rw [ev_ru4g k l s _ _ _ _ (x_at l s 3 (by (first | lia | omega)) h1) (x_at l s 2 (by (first | lia | omega)) h1) (x_at l s 1 (by (first | lia | omega)) h1) (x_at l s 0 (by (first | lia | omega)) h1)]
  unfold u4
  congr 2
  show (((0 + rd l (s + 3)) * 256 + rd l (s + 2)) * 256 + rd l (s + 1)) * 256 + rd l s = _
  (first | lia | omega)
theorem ev_two (k : Nat) (n : Int) : Fk Q1 (k + 1) (Str.ofString "_law_two") [.int n] = .ok (.bytes (le2 n)) := by
  rw [Fk_at (fnAt P1 20) (by rw [nat_Q1]; rfl) fnd1_20 ⟨rfl, by simp⟩]
  rw [show (fnAt P1 20).xs = [Str.ofString "n"] from rfl]
  rw [show Q1.fns = fns1 from rfl, show Q1.G = G1 from rfl, show Q1.B = B1 from rfl]
  conv in (fnAt P1 20).body => whnf
  simp +decide only [getR_some, get_n, bind_ok, e_const, e_name, e_bin, e_call, e_lst, es_nil, es_cons, c_int, b_div, b_mod, isB, k_bytes, ss_cons, seq_ret, s_ret, retO_ok, Bool.and_true, ns_nil, ns_cons, ns_List, List.length_cons, List.length_nil, Nat.reduceAdd, Nat.zero_add, bytesD_l, bytR_some, by_nil, by_cons, outR_ret, Option.map_some, and_self, List.zip_cons_cons, List.zip_nil_right, Int.reduceLT, sh144, u20_0, bb25, u20_3, mod_in]
  rfl
theorem ev_four (k : Nat) (n : Int) : Fk Q1 (k + 1) (Str.ofString "_law_four") [.int n] = .ok (.bytes (le4 n)) := by
  rw [Fk_at (fnAt P1 21) (by rw [nat_Q1]; rfl) fnd1_21 ⟨rfl, by simp⟩]
  rw [show (fnAt P1 21).xs = [Str.ofString "n"] from rfl]
  rw [show Q1.fns = fns1 from rfl, show Q1.G = G1 from rfl, show Q1.B = B1 from rfl]
  conv in (fnAt P1 21).body => whnf
  simp +decide only [getR_some, get_n, bind_ok, e_const, e_name, e_bin, e_call, e_lst, es_nil, es_cons, c_int, b_div, b_mod, isB, k_bytes, ss_cons, seq_ret, s_ret, retO_ok, Bool.and_true, ns_nil, ns_cons, ns_List, List.length_cons, List.length_nil, Nat.reduceAdd, Nat.zero_add, bytesD_l, bytR_some, by_nil, by_cons, outR_ret, Option.map_some, and_self, List.zip_cons_cons, List.zip_nil_right, Int.reduceLT, sh144, u21_0, bb25, u21_3, mod_in]
  rfl
theorem ev_pick (k : Nat) (n : Int) (ds : List D) (h0 : 0 < ds.length) (h1 : ds.length ≤ 1000) : Fk Q1 (k + 1) (Str.ofString "_law_pick") [.int n, .tup ds] = .ok (ds.getD (n % ds.length).toNat .none) := by
  rw [Fk_at (fnAt P1 18) (by rw [nat_Q1]; rfl) fnd1_18 ⟨rfl, by simp⟩]
  rw [show (fnAt P1 18).xs = [Str.ofString "n", Str.ofString "table"] from rfl]
  rw [show Q1.fns = fns1 from rfl, show Q1.G = G1 from rfl, show Q1.B = B1 from rfl]
  conv in (fnAt P1 18).body => whnf
  have c0 : ds.length ≤ line := by unfold line; (first | lia | omega)
  have c1 : (0 : Int) < ds.length := by (first | lia | omega)
  have c2 := Int.emod_nonneg n (show (ds.length : Int) ≠ 0 by (first | lia | omega))
  have c3 := Int.emod_lt_of_pos n c1
  have c4 : 0 ≤ n % (ds.length : Int) ∧ n % (ds.length : Int) < 1000000 := ⟨c2, by (first | lia | omega)⟩
  have c5 : ds[(n % (ds.length : Int)).toNat]? = some (ds.getD (n % (ds.length : Int)).toNat .none) := by
    rw [List.getD_eq_getElem?_getD, List.getElem?_eq_getElem (by (first | lia | omega))]
    rfl
  simp +decide only [getR_some, get_n, bind_ok, e_name, e_bin, e_call, e_subB, es_nil, es_cons, b_mod, isB, k_len, len_t, ss_cons, seq_ret, s_ret, retO_ok, Bool.and_true, ns_nil, ns_cons, ns_Name, idxR_some, x_tup, outR_ret, and_self, List.zip_cons_cons, List.zip_nil_right, sh144, sh145, u18_0, u18_2, bb27, u18_5, c0, c1, c4, c5]
noncomputable def nm : List (List UInt8) := [[76, 73, 83, 84], [102, 97, 99, 116], [68, 65, 84, 65], [102, 109, 116, 95], [76, 73, 83, 84], [100, 97, 116, 97, 32], [102, 109, 116], [99, 117, 101, 32]]
theorem ev_nm (k : Nat) (n : Int) : Fk Q1 (k + 1) (Str.ofString "_law_name") [.int n] = .ok (.bytes (nm.getD (n % 8).toNat [])) := by
  rw [Fk_at (fnAt P1 19) (by rw [nat_Q1]; rfl) fnd1_19 ⟨rfl, by simp⟩]
  rw [show (fnAt P1 19).xs = [Str.ofString "n"] from rfl]
  rw [show Q1.fns = fns1 from rfl, show Q1.G = G1 from rfl, show Q1.B = B1 from rfl]
  conv in (fnAt P1 19).body => whnf
  have c4 : 0 ≤ n % 8 ∧ n % 8 < 1000000 := by (first | lia | omega)
  have c5 : ∀ j : Nat, j < 8 → (nm.map D.bytes)[j]? = some (.bytes (nm.getD j [])) := by
    intro j hj
    rw [List.getElem?_map, List.getElem?_eq_getElem (by exact hj), List.getD_eq_getElem?_getD, List.getElem?_eq_getElem (by exact hj)]
    rfl
  have c6 := c5 (n % 8).toNat (by (first | lia | omega))
  simp only [nm, List.map_cons, List.map_nil] at c6
  simp +decide only [getR_some, get_n, bind_ok, e_const, e_name, e_bin, e_subB, e_tup, es_nil, es_cons, c_int, c_bytes, b_mod, ss_cons, seq_ret, s_ret, retO_ok, List.length_cons, List.length_nil, Nat.reduceAdd, Nat.zero_add, idxR_some, x_tup, outR_ret, and_self, List.zip_cons_cons, List.zip_nil_right, Int.reduceLT, sh144, u19_0, c4, c6]
  rfl
theorem clip_nat (n p : Nat) : clip n (p : Int) = min p n := by
  unfold clip
  rw [if_neg (by (first | lia | omega))]
  (first | lia | omega)
theorem cut_take {α : Type} (l : List α) (p : Nat) : cut l none (some (p : Int)) = l.take p := by
  show (l.drop 0).take (clip l.length p - 0) = _
  rw [clip_nat, List.drop_zero, Nat.sub_zero, ← List.take_eq_take_min]
theorem cut_drop {α : Type} (l : List α) (p : Nat) : cut l (some (p : Int)) none = l.drop p := by
  show (l.drop (clip l.length p)).take (l.length - clip l.length p) = _
  rw [clip_nat]
  rcases Nat.le_total p l.length with h | h
  · rw [Nat.min_eq_left h, List.take_of_length_le (by simp)]
  · rw [Nat.min_eq_right h, List.drop_of_length_le h]
    simp
theorem cut_both {α : Type} (l : List α) (p q : Nat) : cut l (some (p : Int)) (some (q : Int)) = (l.take q).drop p := by
  show (l.drop (clip l.length p)).take (clip l.length q - clip l.length p) = _
  rw [clip_nat, clip_nat, List.drop_take]
  rcases Nat.le_total p l.length with h | h
  · rw [Nat.min_eq_left h]
    rcases Nat.le_total q l.length with h' | h'
    · rw [Nat.min_eq_left h']
    · rw [Nat.min_eq_right h', List.take_of_length_le (by simp), List.take_of_length_le (by simp; (first | lia | omega))]
  · rw [Nat.min_eq_right h, List.drop_of_length_le h, List.drop_of_length_le (Nat.le_refl _)]
    simp
theorem ev_turned (k : Nat) (l : List UInt8) (p : Nat) (t : Int) (h0 : p < l.length) (h1 : l.length + 1 ≤ line) : Fk Q1 (k + 1) (Str.ofString "_law_turned") [.bytes l, .int p, .int t] = .ok (.bytes (l.take p ++ [byte ((rd l p + t) % 256)] ++ l.drop (p + 1))) := by
  rw [Fk_at (fnAt P1 23) (by rw [nat_Q1]; rfl) fnd1_23 ⟨rfl, by simp⟩]
  rw [show (fnAt P1 23).xs = [Str.ofString "data", Str.ofString "place", Str.ofString "turn"] from rfl]
  rw [show Q1.fns = fns1 from rfl, show Q1.G = G1 from rfl, show Q1.B = B1 from rfl]
  conv in (fnAt P1 23).body => whnf
  have c0 : l.length ≤ line := by (first | lia | omega)
  have c1 : (0 : Int) ≤ p ∧ (p : Int) < l.length ∧ l.length ≤ line := ⟨by (first | lia | omega), by (first | lia | omega), c0⟩
  have c2 : cut l (some ((p : Int) + 1)) none = l.drop (p + 1) := cut_drop l (p + 1)
  have c3 : (l.take p).length + 1 ≤ line := by rw [List.length_take]; (first | lia | omega)
  have c4 : (l.take p).length + 1 + (l.drop (p + 1)).length ≤ line := by rw [List.length_take, List.length_drop]; (first | lia | omega)
  simp +decide only [getR_some, get_n, bind_ok, e_const, e_name, e_bin, e_call, e_slice, e_subN, e_lst, es_nil, es_cons, o_none, o_some, part_none, part_int, c_int, b_add, b_mod, b_cat, isB, k_bytes, ss_cons, seq_ret, s_ret, retO_ok, Bool.and_true, ns_nil, ns_cons, ns_List, List.length_cons, List.length_nil, List.length_append, Nat.zero_add, bytesD_l, bytR_some, by_nil, by_cons, x_bytes, cut_b, outR_ret, Option.map_some, and_self, List.zip_cons_cons, List.zip_nil_right, Int.reduceLT, sh14, sh148, sh149, u23_0, u23_2, u23_4, bb25, u23_7, c0, c1, c2, c3, c4, cut_take, mod_in]
  rfl
theorem ev_place (k : Nat) (w n : Int) (h0 : 0 < n) : Fk Q1 (k + 1) (Str.ofString "_law_place") [.int w, .int n] = .ok (.int ((if w % 15 > 11 then w % 15 + 5 else w % 15) % n)) := by
  rw [Fk_at (fnAt P1 24) (by rw [nat_Q1]; rfl) fnd1_24 ⟨rfl, by simp⟩]
  rw [show (fnAt P1 24).xs = [Str.ofString "where", Str.ofString "size"] from rfl]
  rw [show Q1.fns = fns1 from rfl, show Q1.G = G1 from rfl, show Q1.B = B1 from rfl]
  conv in (fnAt P1 24).body => whnf
  by_cases h : w % 15 > 11
  · have c1 : decide (11 < w % 15) = true := by simpa using h
    simp +decide only [getR_some, get_n, set_n, bind_ok, e_const, e_name, e_bin, c_int, b_add, b_mod, m_gt, t_cmp, ch_one, ss_nil, ss_cons, seq_next, seq_ret, s_if, ifO_t, s_ret, retO_ok, asgO_ok, ofS_some, a_name, lm_one, bm_Constant, outR_ret, List.zip_cons_cons, List.zip_nil_right, Int.reduceLT, gt_iff_lt, sh150, sh151, sh152, sh153, sh154, s_asgB, u24_0, u24_2, u24_4, u24_5, c1, h0]
    rw [if_pos h]
  · have c1 : decide (11 < w % 15) = false := by simpa using h
    simp +decide only [getR_some, get_n, set_n, bind_ok, e_const, e_name, e_bin, c_int, b_mod, m_gt, t_cmp, ch_one, ss_nil, ss_cons, seq_next, seq_ret, s_if, ifO_f, s_ret, retO_ok, asgO_ok, ofS_some, a_name, lm_one, bm_Constant, outR_ret, List.zip_cons_cons, List.zip_nil_right, Int.reduceLT, gt_iff_lt, sh150, sh151, sh152, sh153, s_asgB, u24_0, u24_2, u24_4, u24_5, c1, h0]
    rw [if_neg h]
end
end Mine
namespace Mine
section
open PySem

noncomputable def bok (b : Int) : Bool := decide (b = 8 ∨ b = 16 ∨ b = 24 ∨ b = 32)
noncomputable abbrev BOK (b : Int) : Prop := bok b = true
theorem bok_iff {b : Int} : BOK b ↔ (b = 8 ∨ b = 16 ∨ b = 24 ∨ b = 32) := by unfold BOK bok; exact decide_eq_true_iff
noncomputable def FOK (c r b : Int) : Prop := 1 ≤ c ∧ c ≤ 65535 ∧ 1 ≤ r ∧ r < 4294967296 ∧ BOK b ∧ c * b / 8 < 65536 ∧ r * (c * b / 8) < 4294967296
noncomputable def fok (c r b : Int) : Bool := decide (1 ≤ c ∧ c ≤ 65535 ∧ 1 ≤ r ∧ r < 4294967296 ∧ BOK b ∧ c * b / 8 < 65536 ∧ r * (c * b / 8) < 4294967296)
theorem fok_iff {c r b : Int} : fok c r b = true ↔ FOK c r b := by unfold fok FOK; exact decide_eq_true_iff
theorem in_four (b : Int) : inT b [.int 8, .int 16, .int 24, .int 32] = .ok (bok b) := by
  show (if [D.int 8, D.int 16, D.int 24, D.int 32].all isInt = true then R.ok ([D.int 8, D.int 16, D.int 24, D.int 32].any (hitI b)) else R.stuck) = _
  rw [if_pos (by rfl)]
  unfold bok
  congr 1
  rw [Bool.eq_iff_iff]
  simp [hitI]
theorem fin_false {p : Prop} [Decidable p] (h : ¬ p) : (R.ok (D.bool false)) = .ok (.bool (decide p)) := by rw [decide_eq_false h]
theorem fin_true {p : Prop} [Decidable p] (h : p) : (R.ok (D.bool true)) = .ok (.bool (decide p)) := by rw [decide_eq_true h]
theorem in_big {i : Int} (h : -1000000000000 ≤ i ∧ i ≤ 1000000000000) : -big < i ∧ i < big := by unfold big; (first | lia | omega)

theorem ev_fok (k : Nat) (c r b : Int) : Fk Q1 (k + 1) (Str.ofString "_format_ok") [.tup [.int c, .int r, .int b]] = .ok (.bool (fok c r b)) := by
  rw [Fk_at (fnAt P1 7) (by rw [nat_Q1]; rfl) fnd1_7 ⟨rfl, by simp⟩]
  rw [show (fnAt P1 7).xs = [Str.ofString "sound"] from rfl]
  rw [show Q1.fns = fns1 from rfl, show Q1.G = G1 from rfl, show Q1.B = B1 from rfl]
  conv in (fnAt P1 7).body => whnf
  cases a1 : decide (1 ≤ c) with
  | false => simp +decide only [getR_some, get_n, set_n, bind_ok, e_const, e_name, c_int, c_bool, m_le, t_not, notR_f, t_cmp, ch_two, chO_f, ss_cons, seq_next, seq_ret, s_if, ifO_t, s_ret, retO_ok, asgO_ok, ofS_some, s_asgT, a_tup, st_nil, st_cons, stO_some, lm_one, lm_two, nt_Name, bm_Constant, outR_ret, List.zip_cons_cons, List.zip_nil_right, sh80, sh81, sh85, sh86, sh87, u7_0, u7_2, u7_3, u7_5, u7_7, a1]; exact fin_false fun h => of_decide_eq_false a1 h.1
  | true =>
  cases a2 : decide (c ≤ 65535) with
  | false => simp +decide only [getR_some, get_n, set_n, bind_ok, e_const, e_name, c_int, c_bool, m_le, t_not, notR_f, t_cmp, ch_one, ch_two, chO_t, ss_cons, seq_next, seq_ret, s_if, ifO_t, s_ret, retO_ok, asgO_ok, ofS_some, s_asgT, a_tup, st_nil, st_cons, stO_some, lm_one, lm_two, nt_Name, bm_Constant, outR_ret, List.zip_cons_cons, List.zip_nil_right, sh80, sh81, sh85, sh86, sh87, u7_0, u7_2, u7_3, u7_5, u7_7, a1, a2]; exact fin_false fun h => of_decide_eq_false a2 h.2.1
  | true =>
  cases a3 : decide (1 ≤ r) with
  | false => simp +decide only [getR_some, get_n, set_n, bind_ok, e_const, e_name, c_int, c_bool, m_le, t_not, notR_t, notR_f, t_cmp, ch_one, ch_two, chO_t, chO_f, ss_nil, ss_cons, seq_next, seq_ret, s_if, ifO_t, ifO_f, s_ret, retO_ok, asgO_ok, ofS_some, s_asgT, a_tup, st_nil, st_cons, stO_some, lm_one, lm_two, nt_Name, bm_Constant, bm_BinOp, outR_ret, List.zip_cons_cons, List.zip_nil_right, sh80, sh81, sh82, sh85, sh86, sh87, u7_0, u7_2, u7_3, u7_4, u7_5, u7_7, a1, a2, a3]; exact fin_false fun h => of_decide_eq_false a3 h.2.2.1
  | true =>
  cases a4 : decide (r < 4294967296) with
  | false => simp +decide only [getR_some, get_n, set_n, bind_ok, e_const, e_name, e_bin, c_int, c_bool, b_pow, m_lt, m_le, t_not, notR_t, notR_f, t_cmp, ch_one, ch_two, chO_t, ss_nil, ss_cons, seq_next, seq_ret, s_if, ifO_t, ifO_f, s_ret, retO_ok, asgO_ok, ofS_some, s_asgT, a_tup, st_nil, st_cons, stO_some, lm_one, lm_two, nt_Name, bm_Constant, bm_BinOp, outR_ret, and_self, List.zip_cons_cons, List.zip_nil_right, Int.reduceLE, Int.reduceToNat, Int.reducePow, sh80, sh81, sh82, sh85, sh86, sh87, u7_0, u7_2, u7_3, u7_4, u7_5, u7_7, a1, a2, a3, a4]; exact fin_false fun h => of_decide_eq_false a4 h.2.2.2.1
  | true =>
  cases a5 : bok b with
  | false => simp +decide only [getR_some, get_n, set_n, bind_ok, e_const, e_name, e_bin, e_tup, es_nil, es_cons, c_int, c_bool, b_pow, m_lt, m_le, t_not, notR_t, notR_f, t_cmp, ch_one, ch_two, chO_t, ss_nil, ss_cons, seq_next, seq_ret, s_if, ifO_t, ifO_f, s_ret, retO_ok, asgO_ok, ofS_some, s_asgT, a_tup, st_nil, st_cons, stO_some, lm_one, lm_two, nt_Name, bm_Constant, bm_BinOp, bm_Tuple, List.length_cons, List.length_nil, Nat.reduceAdd, Nat.zero_add, m_notin, outR_ret, and_self, List.zip_cons_cons, List.zip_nil_right, Int.reduceLE, Int.reduceToNat, Int.reducePow, sh80, sh81, sh82, sh83, sh85, sh86, sh87, u7_0, u7_2, u7_3, u7_4, u7_5, u7_6, u7_7, a1, a2, a3, a4, a5, in_four]; exact fin_false fun h => absurd h.2.2.2.2.1 (by unfold BOK; rw [a5]; decide)
  | true =>
  have q1 := of_decide_eq_true a1
  have q2 := of_decide_eq_true a2
  have q3 := of_decide_eq_true a3
  have q4 := of_decide_eq_true a4
  have z1 : -big < c ∧ c < big := in_big (by (first | lia | omega))
  have z2 : -big < r ∧ r < big := in_big (by (first | lia | omega))
  cases a6 : decide (c * b / 8 < 65536) with
  | false => simp +decide only [getR_some, get_n, set_n, bind_ok, e_const, e_name, e_bin, e_tup, es_nil, es_cons, c_int, c_bool, b_mul, b_div, b_pow, m_lt, m_le, t_not, notR_t, notR_f, t_cmp, ch_one, ch_two, chO_t, ss_nil, ss_cons, seq_next, seq_ret, s_if, ifO_t, ifO_f, s_ret, retO_ok, asgO_ok, ofS_some, s_asgT, a_name, a_tup, st_nil, st_cons, stO_some, lm_one, lm_two, nt_Name, bm_Constant, bm_BinOp, bm_Tuple, List.length_cons, List.length_nil, Nat.reduceAdd, Nat.zero_add, m_notin, outR_ret, and_self, true_or, List.zip_cons_cons, List.zip_nil_right, Int.reduceLE, Int.reduceLT, Int.reduceToNat, Int.reducePow, sh80, sh81, sh82, sh83, sh84, sh85, sh86, sh87, sh88, s_asgB, u7_0, u7_2, u7_3, u7_4, u7_5, u7_6, u7_7, u7_8, u7_9, a1, a2, a3, a4, a5, a6, in_four, z1]; exact fin_false fun h => of_decide_eq_false a6 h.2.2.2.2.2.1
  | true =>
  cases a7 : decide (r * (c * b / 8) < 4294967296) with
  | false => simp +decide only [getR_some, get_n, set_n, bind_ok, e_const, e_name, e_bin, e_tup, es_nil, es_cons, c_int, c_bool, b_mul, b_div, b_pow, m_lt, m_le, t_not, notR_t, notR_f, t_cmp, ch_one, ch_two, chO_t, ss_nil, ss_cons, seq_next, seq_ret, s_if, ifO_t, ifO_f, s_ret, retO_ok, asgO_ok, ofS_some, s_asgT, a_name, a_tup, st_nil, st_cons, stO_some, lm_one, lm_two, nt_Name, bm_Constant, bm_BinOp, bm_Tuple, List.length_cons, List.length_nil, Nat.reduceAdd, Nat.zero_add, m_notin, outR_ret, and_self, true_or, List.zip_cons_cons, List.zip_nil_right, Int.reduceLE, Int.reduceLT, Int.reduceToNat, Int.reducePow, sh80, sh81, sh82, sh83, sh84, sh85, sh86, sh87, sh88, s_asgB, u7_0, u7_2, u7_3, u7_4, u7_5, u7_6, u7_7, u7_8, u7_9, a1, a2, a3, a4, a5, a6, a7, in_four, z1, z2]; exact fin_false fun h => of_decide_eq_false a7 h.2.2.2.2.2.2
  | true => simp +decide only [getR_some, get_n, set_n, bind_ok, e_const, e_name, e_bin, e_tup, es_nil, es_cons, c_int, c_bool, b_mul, b_div, b_pow, m_lt, m_le, t_not, notR_t, t_cmp, ch_one, ch_two, chO_t, ss_nil, ss_cons, seq_next, seq_ret, s_if, ifO_f, s_ret, retO_ok, asgO_ok, ofS_some, s_asgT, a_name, a_tup, st_nil, st_cons, stO_some, lm_one, lm_two, nt_Name, bm_Constant, bm_BinOp, bm_Tuple, List.length_cons, List.length_nil, Nat.reduceAdd, Nat.zero_add, m_notin, outR_ret, and_self, true_or, List.zip_cons_cons, List.zip_nil_right, Int.reduceLE, Int.reduceLT, Int.reduceToNat, Int.reducePow, sh80, sh81, sh82, sh83, sh84, sh85, sh86, sh87, sh88, s_asgB, u7_0, u7_2, u7_3, u7_4, u7_5, u7_6, u7_7, u7_8, u7_9, a1, a2, a3, a4, a5, a6, a7, in_four, z1, z2]; exact fin_true ⟨q1, q2, q3, q4, a5, of_decide_eq_true a6, of_decide_eq_true a7⟩

theorem frame_of {c b : Int} (h : BOK b) : c * b / 8 = c * (b / 8) ∧ 1 ≤ b / 8 ∧ b / 8 ≤ 4 := by
  rcases bok_iff.mp h with rfl | rfl | rfl | rfl <;> refine ⟨?_, by decide, by decide⟩ <;> (first | lia | omega)
theorem frame_pos {c b : Int} (h : BOK b) (hc : 1 ≤ c) : c ≤ c * b / 8 := by
  rcases bok_iff.mp h with rfl | rfl | rfl | rfl <;> (first | lia | omega)
theorem mul_big {r f : Int} (hr : 1 ≤ r) (hf : 1 ≤ f) : r ≤ r * f := by
  have := Int.mul_le_mul_of_nonneg_left hf (show 0 ≤ r by (first | lia | omega))
  rwa [Int.mul_one] at this

theorem ev_sok (k : Nat) (c r b : Int) : Fk Q1 (k + 1) (Str.ofString "_law_sound_ok") [.tup [.int c, .int r, .int b]] = .ok (.bool (fok c r b)) := by
  rw [Fk_at (fnAt P1 26) (by rw [nat_Q1]; rfl) fnd1_26 ⟨rfl, by simp⟩]
  rw [show (fnAt P1 26).xs = [Str.ofString "sound"] from rfl]
  rw [show Q1.fns = fns1 from rfl, show Q1.G = G1 from rfl, show Q1.B = B1 from rfl]
  conv in (fnAt P1 26).body => whnf
  cases a5 : bok b with
  | false => simp +decide only [getR_some, get_n, set_n, bind_ok, e_const, e_name, e_tup, es_nil, es_cons, c_int, c_bool, notR_f, t_cmp, ch_one, ss_cons, seq_next, seq_ret, s_if, ifO_t, s_ret, retO_ok, asgO_ok, ofS_some, s_asgT, a_tup, st_nil, st_cons, stO_some, lm_one, nt_Name, bm_Tuple, List.length_cons, List.length_nil, Nat.reduceAdd, Nat.zero_add, m_notin, outR_ret, List.zip_cons_cons, List.zip_nil_right, sh80, sh83, sh85, sh86, sh87, u26_0, u26_3, u26_5, u26_6, u26_7, a5, in_four]; exact fin_false fun h => absurd h.2.2.2.2.1 (by unfold BOK; rw [a5]; decide)
  | true =>
  have q5 := bok_iff.mp a5
  cases a1 : decide (c < 1) with
  | true => simp +decide only [getR_some, get_n, set_n, bind_ok, e_const, e_name, e_tup, es_nil, es_cons, c_int, c_bool, m_lt, notR_t, t_bool, ts_or, orO_t, t_cmp, ch_one, ss_nil, ss_cons, seq_next, seq_ret, s_if, ifO_t, ifO_f, s_ret, retO_ok, asgO_ok, ofS_some, s_asgT, a_tup, st_nil, st_cons, stO_some, lm_one, nt_Name, bm_Constant, bm_Tuple, List.length_cons, List.length_nil, Nat.reduceAdd, Nat.zero_add, m_notin, outR_ret, List.zip_cons_cons, List.zip_nil_right, sh80, sh81, sh83, sh85, sh86, sh87, u26_0, u26_2, u26_3, u26_5, u26_6, u26_7, a5, a1, in_four]; exact fin_false fun h => absurd (of_decide_eq_true a1) (by have := h.1; (first | lia | omega))
  | false =>
  have q1 := of_decide_eq_false a1
  cases a2 : decide (r < 1) with
  | true => simp +decide only [getR_some, get_n, set_n, bind_ok, e_const, e_name, e_tup, es_nil, es_cons, c_int, c_bool, m_lt, notR_t, t_bool, ts_or, orO_t, orO_f, t_cmp, ch_one, ss_nil, ss_cons, seq_next, seq_ret, s_if, ifO_t, ifO_f, s_ret, retO_ok, asgO_ok, ofS_some, s_asgT, a_tup, st_nil, st_cons, stO_some, lm_one, nt_Name, bm_Constant, bm_Tuple, List.length_cons, List.length_nil, Nat.reduceAdd, Nat.zero_add, m_notin, outR_ret, List.zip_cons_cons, List.zip_nil_right, sh80, sh81, sh82, sh83, sh85, sh86, sh87, u26_0, u26_2, u26_3, u26_4, u26_5, u26_6, u26_7, a5, a1, a2, in_four]; exact fin_false fun h => absurd (of_decide_eq_true a2) (by have := h.2.2.1; (first | lia | omega))
  | false =>
  have q2 := of_decide_eq_false a2
  have z1 : -big < b ∧ b < big := in_big (by rcases q5 with rfl | rfl | rfl | rfl <;> decide)
  have z3 := frame_pos a5 (show 1 ≤ c by (first | lia | omega))
  cases a3 : decide (65535 < c * b / 8) with
  | true => simp +decide only [getR_some, get_n, set_n, bind_ok, e_const, e_name, e_bin, e_tup, es_nil, es_cons, c_int, c_bool, b_mul, b_div, m_lt, m_gt, notR_t, t_bool, ts_orN, ts_or, orO_f, t_cmp, ch_one, ss_nil, ss_cons, seq_next, seq_ret, s_if, ifO_t, ifO_f, s_ret, retO_ok, asgO_ok, ofS_some, s_asgT, a_name, a_tup, st_nil, st_cons, stO_some, lm_one, nt_Name, bm_Constant, bm_Tuple, List.length_cons, List.length_nil, Nat.reduceAdd, Nat.zero_add, m_notin, outR_ret, and_self, or_true, List.zip_cons_cons, List.zip_nil_right, Int.reduceLT, gt_iff_lt, sh80, sh81, sh82, sh83, sh84, sh85, sh86, sh87, sh88, s_asgB, u26_0, u26_2, u26_3, u26_4, u26_5, u26_6, u26_7, u26_8, u26_9, a5, a1, a2, a3, in_four, z1]; exact fin_false fun h => absurd (of_decide_eq_true a3) (by have := h.2.2.2.2.2.1; (first | lia | omega))
  | false =>
  have q3 := of_decide_eq_false a3
  have z2 : -big < c * b / 8 ∧ c * b / 8 < big := in_big (by (first | lia | omega))
  simp +decide only [getR_some, get_n, set_n, bind_ok, e_const, e_name, e_bin, e_cmp, e_tup, es_nil, es_cons, c_int, b_mul, b_div, m_lt, m_le, m_gt, notR_t, t_bool, ts_orN, ts_or, orO_f, t_cmp, ch_one, boolR, ss_nil, ss_cons, seq_next, seq_ret, s_if, ifO_f, s_ret, retO_ok, asgO_ok, ofS_some, s_asgT, a_name, a_tup, st_nil, st_cons, stO_some, lm_one, nt_Name, bm_Constant, bm_Tuple, List.length_cons, List.length_nil, Nat.reduceAdd, Nat.zero_add, m_notin, outR_ret, and_self, or_true, List.zip_cons_cons, List.zip_nil_right, Int.reduceLT, gt_iff_lt, sh80, sh81, sh82, sh83, sh84, sh85, sh86, sh87, sh88, s_asgB, u26_0, u26_2, u26_3, u26_4, u26_5, u26_6, u26_7, u26_8, u26_9, a5, a1, a2, a3, in_four, z1, z2]
  congr 2
  unfold fok
  rw [decide_eq_decide]
  have z4 := mul_big (show 1 ≤ r by (first | lia | omega)) (show 1 ≤ c * b / 8 by (first | lia | omega))
  exact ⟨fun h => ⟨by (first | lia | omega), by (first | lia | omega), by (first | lia | omega), by (first | lia | omega), a5, by (first | lia | omega), by (first | lia | omega)⟩, fun h => by have := h.2.2.2.2.2.2; (first | lia | omega)⟩

theorem ev_fits (k : Nat) (c r b : Int) (l : List UInt8) (hl : l.length ≤ line) : Fk Q1 (k + 2) (Str.ofString "_law_fits") [.tup [.int c, .int r, .int b], .bytes l] = .ok (.bool (fok c r b && decide ((l.length : Int) % (c * b / 8) = 0))) := by
  rw [Fk_at (fnAt P1 27) (by rw [nat_Q1]; rfl) fnd1_27 ⟨rfl, by simp⟩]
  rw [show (fnAt P1 27).xs = [Str.ofString "sound", Str.ofString "samples"] from rfl]
  rw [show Q1.fns = fns1 from rfl, show Q1.G = G1 from rfl, show Q1.B = B1 from rfl]
  conv in (fnAt P1 27).body => whnf
  have c1 := ev_sok k c r b
  cases a1 : fok c r b with
  | false =>
    simp +decide only [getR_some, get_n, bind_ok, e_const, e_name, e_call, es_nil, es_cons, c_bool, isF, t_not, notR_f, t_call, boolD_b, ss_cons, seq_ret, s_if, ifO_t, s_ret, retO_ok, Bool.and_true, Bool.false_and, ns_nil, ns_cons, ns_Name, outR_ret, List.zip_cons_cons, List.zip_nil_right, sh80, u27_0, bb18, u27_5, c1, a1]
  | true =>
    have q := fok_iff.mp a1
    have z1 : -big < c ∧ c < big := in_big (by have := q.1; have := q.2.1; (first | lia | omega))
    have z2 : 0 < c * b / 8 := by have := frame_pos q.2.2.2.2.1 q.1; have := q.1; (first | lia | omega)
    simp +decide only [getR_some, get_n, bind_ok, e_const, e_name, e_bin, e_cmp, e_call, e_subC, es_nil, es_cons, c_int, b_mul, b_div, b_mod, m_eq, eqR_some, q_int, isB, isF, k_len, len_b, t_not, notR_t, t_call, boolD_b, boolR, ss_nil, ss_cons, seq_next, seq_ret, s_if, ifO_f, s_ret, retO_ok, Bool.and_true, Bool.true_and, ns_nil, ns_cons, ns_Name, bm_Constant, idxR_some, x_tup, outR_ret, and_self, true_or, List.zip_cons_cons, List.zip_nil_right, Int.reduceLE, Int.reduceLT, Int.reduceToNat, sh80, sh102, u27_0, u27_2, bb18, u27_5, bb27, u27_7, c1, a1, z1, z2, hl, List.getElem?_cons_zero, List.getElem?_cons_succ]
    rfl

noncomputable def hd (c r b f : Int) : List UInt8 := le2 1 ++ le2 c ++ le4 r ++ le4 (r * f) ++ le2 f ++ le2 b
theorem le2_len (n : Int) : (le2 n).length = 2 := by rw [show (le2 n).length = 2 from rfl]
theorem le4_len (n : Int) : (le4 n).length = 4 := by rw [show (le4 n).length = 4 from rfl]
theorem hd_len (c r b f : Int) : (hd c r b f).length = 16 := rfl
theorem ev_wf (k : Nat) (c r b : Int) : Fk Q1 (k + 2) (Str.ofString "write_format") [.tup [.int c, .int r, .int b]] = if fok c r b then .ok (.bytes (hd c r b (c * b / 8))) else .raise := by
  rw [Fk_at (fnAt P1 8) (by rw [nat_Q1]; rfl) fnd1_8 ⟨rfl, by simp⟩]
  rw [show (fnAt P1 8).xs = [Str.ofString "sound"] from rfl]
  rw [show Q1.fns = fns1 from rfl, show Q1.G = G1 from rfl, show Q1.B = B1 from rfl]
  conv in (fnAt P1 8).body => whnf
  have c1 := ev_fok k c r b
  cases a1 : fok c r b with
  | false =>
    simp +decide only [getR_some, get_n, bind_ok, e_const, e_name, e_call, es_nil, es_cons, c_str, isF, t_not, notR_f, t_call, boolD_b, ss_cons, seq_raise, s_if, ifO_t, s_raise, rsO_str, reduceIte, Bool.and_true, ns_nil, ns_cons, ns_Name, ns_Constant, outR_raise, List.zip_cons_cons, List.zip_nil_right, sh80, u8_0, bb1, u8_11, u8_12, c1, a1]
  | true =>
    have q := fok_iff.mp a1
    have q6 := frame_pos q.2.2.2.2.1 q.1
    have q7 := mul_big q.2.2.1 (show 1 ≤ c * b / 8 by have := q.1; (first | lia | omega))
    obtain ⟨q1, q2, q3, q4, q5, q8, q9⟩ := q
    have q5' := bok_iff.mp q5
    have z1 : -big < c ∧ c < big := in_big (by (first | lia | omega))
    have z2 : -big < r ∧ r < big := in_big (by (first | lia | omega))
    have w1 := ev_wu2 k 1 (by decide) (by decide)
    have w2 := ev_wu2 k c (by (first | lia | omega)) (by (first | lia | omega))
    have w3 := ev_wu4 k r (by (first | lia | omega)) (by (first | lia | omega))
    have w4 := ev_wu4 k (r * (c * b / 8)) (by (first | lia | omega)) (by (first | lia | omega))
    have w5 := ev_wu2 k (c * b / 8) (by (first | lia | omega)) (by (first | lia | omega))
    have w6 := ev_wu2 k b (by (first | lia | omega)) (by (first | lia | omega))
    have y1 : 2 + 2 ≤ line := by decide
    simp +decide only [getR_some, get_n, set_n, bind_ok, e_const, e_name, e_bin, e_call, es_nil, es_cons, c_int, b_mul, b_div, b_cat, isF, t_not, notR_t, t_call, boolD_b, ss_nil, ss_cons, seq_next, seq_ret, s_if, ifO_f, s_ret, retO_ok, asgO_ok, ofS_some, s_asgT, a_name, a_tup, st_nil, st_cons, stO_some, reduceIte, Bool.and_true, ns_nil, ns_cons, ns_Name, nt_Name, ns_Constant, ns_BinOp, List.length_append, Nat.reduceAdd, outR_ret, and_self, true_or, List.zip_cons_cons, List.zip_nil_right, Int.reduceLT, sh80, sh81, sh82, sh83, sh84, sh85, sh86, sh87, sh88, s_asgB, u8_0, u8_2, u8_3, u8_4, u8_5, u8_6, u8_7, u8_8, u8_9, bb1, u8_11, bb24, u8_14, c1, a1, z1, z2, w1, w2, w3, w4, w5, w6, le2_len, le4_len, List.length_append]
    rfl

structure RF (l : List UInt8) : Prop where
  len : 16 ≤ l.length
  kind : u2 l 0 = 1
  ok : fok (u2 l 2) (u4 l 4) (u2 l 14) = true
  frame : u2 l 12 = u2 l 2 * u2 l 14 / 8
  rate : u4 l 8 = u4 l 4 * u2 l 12
theorem rd_in (l : List UInt8) (j : Nat) : 0 ≤ rd l j ∧ rd l j < 256 := by
  unfold rd
  have := (l.getD j 0).toNat_lt
  (first | lia | omega)
theorem u2_in (l : List UInt8) (j : Nat) : 0 ≤ u2 l j ∧ u2 l j < 65536 := by
  have := rd_in l j
  have := rd_in l (j + 1)
  unfold u2
  (first | lia | omega)
theorem u4_in (l : List UInt8) (j : Nat) : 0 ≤ u4 l j ∧ u4 l j < 4294967296 := by
  have := rd_in l j
  have := rd_in l (j + 1)
  have := rd_in l (j + 2)
  have := rd_in l (j + 3)
  unfold u4
  (first | lia | omega)
theorem ev_rf_short (k : Nat) (l : List UInt8) (hs : l.length < 16) : Fk Q1 (k + 2) (Str.ofString "read_format") [.bytes l] = .raise := by
  rw [Fk_at (fnAt P1 9) (by rw [nat_Q1]; rfl) fnd1_9 ⟨rfl, by simp⟩]
  rw [show (fnAt P1 9).xs = [Str.ofString "body"] from rfl]
  rw [show Q1.fns = fns1 from rfl, show Q1.G = G1 from rfl, show Q1.B = B1 from rfl]
  conv in (fnAt P1 9).body => whnf
  have a1 : decide ((l.length : Int) < 16) = true := by simp; (first | lia | omega)
  have hl : l.length ≤ line := by unfold line; (first | lia | omega)
  simp +decide only [getR_some, get_n, bind_ok, e_const, e_name, e_call, es_nil, es_cons, c_int, c_str, m_lt, isB, k_len, len_b, t_cmp, ch_one, ss_cons, seq_raise, s_if, ifO_t, s_raise, rsO_str, Bool.and_true, lm_one, ns_nil, ns_cons, ns_Name, bm_Constant, ns_Constant, outR_raise, List.zip_cons_cons, List.zip_nil_right, sh89, u9_0, bb27, u9_15, u9_16, a1, hl]
theorem ev_rf_gen (k : Nat) (l : List UInt8) (h16 : 16 ≤ l.length) (hl : l.length ≤ line) (k0 c r s f b : Int) (r0 : Fk Q1 (k + 1) (Str.ofString "_read_uint") [.bytes l, .int 0, .int 2] = .ok (.int k0)) (r1 : Fk Q1 (k + 1) (Str.ofString "_read_uint") [.bytes l, .int 2, .int 2] = .ok (.int c))
    (r2 : Fk Q1 (k + 1) (Str.ofString "_read_uint") [.bytes l, .int 4, .int 4] = .ok (.int r)) (r3 : Fk Q1 (k + 1) (Str.ofString "_read_uint") [.bytes l, .int 8, .int 4] = .ok (.int s)) (r4 : Fk Q1 (k + 1) (Str.ofString "_read_uint") [.bytes l, .int 12, .int 2] = .ok (.int f))
    (r5 : Fk Q1 (k + 1) (Str.ofString "_read_uint") [.bytes l, .int 14, .int 2] = .ok (.int b)) (z1 : -big < c ∧ c < big) (z2 : -big < r ∧ r < big) :
    Fk Q1 (k + 2) (Str.ofString "read_format") [.bytes l] = if (k0 == 1 && (fok c r b && (f == c * b / 8 && s == r * f))) = true then .ok (.tup [.int c, .int r, .int b]) else .raise := by
  rw [Fk_at (fnAt P1 9) (by rw [nat_Q1]; rfl) fnd1_9 ⟨rfl, by simp⟩]
  rw [show (fnAt P1 9).xs = [Str.ofString "body"] from rfl]
  rw [show Q1.fns = fns1 from rfl, show Q1.G = G1 from rfl, show Q1.B = B1 from rfl]
  conv in (fnAt P1 9).body => whnf
  have a1 : decide ((l.length : Int) < 16) = false := by simp; (first | lia | omega)
  have r6 := ev_fok k c r b
  simp +decide only [getR_some, get_n, set_n, bind_ok, e_const, e_name, e_call, es_nil, es_cons, c_int, m_lt, m_ne, neR_some, q_int, isB, isF, k_len, len_b, t_cmp, ch_one, ss_nil, ss_cons, seq_next, s_if, ifO_f, asgO_ok, ofS_some, a_name, Bool.and_true, lm_one, ns_nil, ns_cons, ns_Name, bm_Constant, ns_Constant, List.zip_cons_cons, List.zip_nil_right, sh89, sh90, sh96, sh97, sh98, sh99, sh100, sh101, s_asgK, u9_0, u9_2, u9_3, u9_5, u9_7, u9_9, u9_11, u9_13, bb27, u9_15, bb23, u9_18, a1, hl, r0, r1, r2, r3, r4, r5]
  cases b1 : (k0 == 1) with
  | false => simp +decide only [e_const, c_str, ss_cons, seq_raise, ifO_t, s_raise, rsO_str, reduceIte, reduceCtorEq, Bool.and_true, Bool.false_and, Bool.not_false, ns_Constant, outR_raise, u9_16]
  | true =>
  simp +decide only [getR_some, get_n, bind_ok, e_name, e_call, e_tup, es_nil, es_cons, isF, t_not, t_call, boolD_b, ss_nil, ss_cons, seq_next, s_if, ifO_f, Bool.and_true, Bool.true_and, Bool.not_true, ns_nil, ns_cons, ns_Tuple, List.length_cons, List.length_nil, Nat.reduceAdd, Nat.zero_add, sh91, sh92, sh95, u9_4, u9_6, u9_12, bb1, u9_20, r6]
  cases b4 : fok c r b with
  | false => simp +decide only [e_const, c_str, notR_f, ss_cons, seq_raise, ifO_t, s_raise, rsO_str, reduceIte, reduceCtorEq, Bool.and_true, Bool.false_and, ns_Constant, outR_raise, u9_16]
  | true =>
  simp +decide only [getR_some, get_n, bind_ok, e_const, e_name, e_bin, c_int, b_mul, b_div, m_ne, neR_some, q_int, notR_t, t_cmp, ch_one, ss_nil, ss_cons, seq_next, s_if, ifO_f, Bool.true_and, lm_one, bm_BinOp, and_self, true_or, Int.reduceLT, sh91, sh94, sh95, u9_4, u9_10, u9_12, z1]
  cases b2 : (f == c * b / 8) with
  | false => simp +decide only [e_const, c_str, ss_cons, seq_raise, ifO_t, s_raise, rsO_str, reduceIte, reduceCtorEq, Bool.and_true, Bool.false_and, Bool.not_false, ns_Constant, outR_raise, u9_16]
  | true =>
  simp +decide only [getR_some, get_n, bind_ok, e_name, e_bin, b_mul, m_ne, neR_some, q_int, t_cmp, ch_one, ss_nil, ss_cons, seq_next, s_if, ifO_f, Bool.true_and, Bool.not_true, lm_one, bm_BinOp, and_self, true_or, sh92, sh93, sh94, u9_6, u9_8, u9_10, z2]
  cases b3 : (s == r * f) with
  | false => simp +decide only [e_const, c_str, ss_cons, seq_raise, ifO_t, s_raise, rsO_str, reduceIte, Bool.and_true, Bool.not_false, ns_Constant, outR_raise, u9_16]
  | true => simp +decide only [getR_some, get_n, bind_ok, e_name, e_tup, es_nil, es_cons, ss_nil, ss_cons, seq_next, seq_ret, ifO_f, s_ret, retO_ok, reduceIte, Bool.not_true, List.length_cons, List.length_nil, Nat.reduceAdd, Nat.zero_add, outR_ret, sh91, sh92, sh95, u9_4, u9_6, u9_12]
theorem ev_rf_at (k : Nat) (l : List UInt8) (h16 : 16 ≤ l.length) (hl : l.length ≤ line) : Fk Q1 (k + 2) (Str.ofString "read_format") [.bytes l] =
    if (u2 l 0 == 1 && (fok (u2 l 2) (u4 l 4) (u2 l 14) && (u2 l 12 == u2 l 2 * u2 l 14 / 8 && u4 l 8 == u4 l 4 * u2 l 12))) = true then .ok (.tup [.int (u2 l 2), .int (u4 l 4), .int (u2 l 14)]) else .raise :=
  ev_rf_gen k l h16 hl _ _ _ _ _ _ (ev_ru2 k l 0 (by (first | lia | omega)) hl) (ev_ru2 k l 2 (by (first | lia | omega)) hl) (ev_ru4 k l 4 (by (first | lia | omega)) hl) (ev_ru4 k l 8 (by (first | lia | omega)) hl) (ev_ru2 k l 12 (by (first | lia | omega)) hl) (ev_ru2 k l 14 (by (first | lia | omega)) hl)
    (in_big (by have := u2_in l 2; (first | lia | omega))) (in_big (by have := u4_in l 4; (first | lia | omega)))
theorem ev_rf_ok (k : Nat) (l : List UInt8) (hl : l.length ≤ line) (h : RF l) : Fk Q1 (k + 2) (Str.ofString "read_format") [.bytes l] = .ok (.tup [.int (u2 l 2), .int (u4 l 4), .int (u2 l 14)]) := by
  rw [ev_rf_at k l h.len hl, if_pos]
  simp only [Bool.and_eq_true, beq_iff_eq]
  exact ⟨h.kind, h.ok, h.frame, h.rate⟩
theorem ev_rf_no (k : Nat) (l : List UInt8) (h16 : 16 ≤ l.length) (hl : l.length ≤ line) (h : ¬ RF l) : Fk Q1 (k + 2) (Str.ofString "read_format") [.bytes l] = .raise := by
  rw [ev_rf_at k l h16 hl, if_neg]
  simp only [Bool.and_eq_true, beq_iff_eq]
  exact fun q => h ⟨h16, q.1, q.2.1, q.2.2.1, q.2.2.2⟩
end
end Mine
namespace Mine
section
open PySem

noncomputable abbrev Ch := List UInt8 × List UInt8
noncomputable def cD (c : Ch) : D := .tup [.bytes c.1, .bytes c.2]
noncomputable def encC (d : UInt8) (c : Ch) : List UInt8 := c.1 ++ le4 c.2.length ++ c.2 ++ (if c.2.length % 2 = 1 then [d] else [])
noncomputable def encs (cs : List Ch) : List UInt8 := cs.flatMap (encC 0)
noncomputable def riff : List UInt8 := [82, 73, 70, 70]
noncomputable def wave : List UInt8 := [87, 65, 86, 69]
theorem wave_len : wave.length = 4 := rfl
theorem riff_len : riff.length = 4 := rfl
noncomputable def plain (cs : List Ch) : List UInt8 := riff ++ le4 (4 + (encs cs).length) ++ (wave ++ encs cs)
noncomputable def pieces (c : Ch) : List (List UInt8) := [c.1, le4 c.2.length, c.2] ++ (if c.2.length % 2 = 1 then [[0]] else [])
theorem pieces_flat (c : Ch) : (pieces c).flatten = encC 0 c := by
  unfold pieces encC
  split <;> simp
theorem pieces_len (c : Ch) : (pieces c).length ≤ 4 := by
  unfold pieces
  split <;> simp
theorem encC_len (d : UInt8) (c : Ch) : (encC d c).length = c.1.length + 4 + c.2.length + c.2.length % 2 := by
  unfold encC
  split <;> simp [le4_len] <;> (first | lia | omega)
noncomputable def C1 (k : Nat) (i : Nat) : Cfg := ⟨Fk Q1 k, fns1, G1, B1, (fnAt P1 i).scope⟩

theorem wc_stepA (k : Nat) (ch : D) (t : Int) (ps : List (List UInt8)) (c : Ch) (r : List D) (h4 : c.1.length = 4) (h0 : c.2.length < 16777216) (hz : ps.length ≤ 900) :
    forO (C1 (k + 1) 4) 96 (forTg (stAt (fnAt P1 4) 2)) (forBd (stAt (fnAt P1 4) 2)) (cD c :: r) ⟨[(Str.ofString "chunks", ch), (Str.ofString "total", .int t)], some (Str.ofString "parts", ps.map D.bytes)⟩ =
      forO (C1 (k + 1) 4) 96 (forTg (stAt (fnAt P1 4) 2)) (forBd (stAt (fnAt P1 4) 2)) r ⟨[(Str.ofString "chunks", ch), (Str.ofString "total", .int (t + 8 + c.2.length + (c.2.length : Int) % 2)), (Str.ofString "name", .bytes c.1), (Str.ofString "body", .bytes c.2), (Str.ofString "size", .int c.2.length), (Str.ofString "pad", .int ((c.2.length : Int) % 2))], some (Str.ofString "parts", (ps ++ pieces c).map D.bytes)⟩ := by
  have hA : assignD (C1 (k + 1) 4) ⟨[(Str.ofString "chunks", ch), (Str.ofString "total", .int t)], some (Str.ofString "parts", ps.map D.bytes)⟩ (forTg (stAt (fnAt P1 4) 2)) (cD c) = some ⟨[(Str.ofString "chunks", ch), (Str.ofString "total", .int t), (Str.ofString "name", .bytes c.1), (Str.ofString "body", .bytes c.2)], some (Str.ofString "parts", ps.map D.bytes)⟩ := by
    conv in forTg _ => whnf
    unfold cD C1
    simp +decide only [a_tup, st_nil, st_cons, stO_some, nl_bytes, sh33, sh35, sh52, sh54, u4_7, u4_9]
  have hB : execs (C1 (k + 1) 4) 96 ⟨[(Str.ofString "chunks", ch), (Str.ofString "total", .int t), (Str.ofString "name", .bytes c.1), (Str.ofString "body", .bytes c.2)], some (Str.ofString "parts", ps.map D.bytes)⟩ (forBd (stAt (fnAt P1 4) 2)) = .next ⟨[(Str.ofString "chunks", ch), (Str.ofString "total", .int (t + 8 + c.2.length + (c.2.length : Int) % 2)), (Str.ofString "name", .bytes c.1), (Str.ofString "body", .bytes c.2), (Str.ofString "size", .int c.2.length), (Str.ofString "pad", .int ((c.2.length : Int) % 2))], some (Str.ofString "parts", (ps ++ pieces c).map D.bytes)⟩ := by
    conv in forBd _ => whnf
    unfold C1
    have l1 : c.1.length ≤ line := by unfold line; (first | lia | omega)
    have l2 : c.2.length ≤ line := by unfold line; (first | lia | omega)
    have w := ev_wu4 k c.2.length (by (first | lia | omega)) (by (first | lia | omega))
    have p0 : (ps.map D.bytes).length ≤ 1000000 := by rw [List.length_map]; (first | lia | omega)
    have p1 : (ps.map D.bytes).length + 1 ≤ 1000000 := by rw [List.length_map]; (first | lia | omega)
    have p2 : (ps.map D.bytes).length + 1 + 1 ≤ 1000000 := by rw [List.length_map]; (first | lia | omega)
    have p3 : (ps.map D.bytes).length + 1 + 1 + 1 ≤ 1000000 := by rw [List.length_map]; (first | lia | omega)
    have a1 : (((c.1.length : Nat) : Int) == 4) = true := by rw [h4]; rfl
    cases a2 : ((c.2.length : Int) % 2 == 1) with
    | true =>
      have e : c.2.length % 2 = 1 := by have := of_decide_eq_true a2; (first | lia | omega)
      have ep : (ps ++ pieces c).map D.bytes = ps.map D.bytes ++ [.bytes c.1] ++ [.bytes (le4 c.2.length)] ++ [.bytes c.2] ++ [.bytes [0]] := by unfold pieces; rw [if_pos e]; simp
      rw [ep]
      simp +decide only [getR_some, bind_ok, e_const, e_name, e_bin, e_call, es_nil, es_cons, c_int, c_bytes, b_add, b_mod, m_eq, m_ne, eqR_some, neR_some, q_int, isB, isF, k_len, len_b, t_cmp, ch_one, ss_nil, ss_cons, seq_next, s_if, ifO_t, ifO_f, asgO_ok, ofS_some, a_name, s_app, appO_ok, String.reduceEq, decide_false, Bool.and_true, Bool.not_true, Bool.not_false, beq_self_eq_true, lm_one, ns_nil, ns_cons, ns_Name, bm_Constant, ns_Constant, ns_Call, List.length_cons, List.length_nil, List.length_append, Nat.zero_add, nl_int, nl_bytes, Int.reduceLT, sh24, sh26, sh27, sh28, sh29, sh34, sh38, sh39, sh44, sh47, sh48, sh50, sh51, sh55, sh56, sh57, s_asgB, s_asgK, u4_3, u4_4, u4_5, u4_6, u4_8, u4_10, u4_11, u4_12, u4_13, bb27, u4_17, bb24, u4_20, l1, l2, w, p0, p1, p2, p3, a1, a2]
    | false =>
      have e : ¬ c.2.length % 2 = 1 := by have := of_decide_eq_false a2; (first | lia | omega)
      have ep : (ps ++ pieces c).map D.bytes = ps.map D.bytes ++ [.bytes c.1] ++ [.bytes (le4 c.2.length)] ++ [.bytes c.2] := by unfold pieces; rw [if_neg e]; simp
      rw [ep]
      simp +decide only [getR_some, bind_ok, e_const, e_name, e_bin, e_call, es_nil, es_cons, c_int, b_add, b_mod, m_eq, m_ne, eqR_some, neR_some, q_int, isB, isF, k_len, len_b, t_cmp, ch_one, ss_nil, ss_cons, seq_next, s_if, ifO_f, asgO_ok, ofS_some, a_name, s_app, appO_ok, String.reduceEq, decide_false, Bool.and_true, Bool.not_true, Bool.not_false, beq_self_eq_true, lm_one, ns_nil, ns_cons, ns_Name, bm_Constant, ns_Constant, ns_Call, List.length_cons, List.length_nil, List.length_append, Nat.zero_add, nl_int, nl_bytes, Int.reduceLT, sh24, sh26, sh27, sh28, sh29, sh34, sh38, sh39, sh44, sh47, sh48, sh50, sh51, sh55, sh56, sh57, s_asgB, s_asgK, u4_3, u4_4, u4_5, u4_6, u4_8, u4_10, u4_11, u4_12, u4_13, bb27, u4_17, bb24, u4_20, l1, l2, w, p0, p1, p2, a1, a2]
  rw [for_cons, hA, forA_some, hB, forB_next]
theorem wc_badA (k : Nat) (ch : D) (t : Int) (ps : List (List UInt8)) (c : Ch) (r : List D) (h4 : c.1.length ≠ 4) (h0 : c.1.length < 16777216) :
    forO (C1 (k + 1) 4) 96 (forTg (stAt (fnAt P1 4) 2)) (forBd (stAt (fnAt P1 4) 2)) (cD c :: r) ⟨[(Str.ofString "chunks", ch), (Str.ofString "total", .int t)], some (Str.ofString "parts", ps.map D.bytes)⟩ = .raise := by
  have hA : assignD (C1 (k + 1) 4) ⟨[(Str.ofString "chunks", ch), (Str.ofString "total", .int t)], some (Str.ofString "parts", ps.map D.bytes)⟩ (forTg (stAt (fnAt P1 4) 2)) (cD c) = some ⟨[(Str.ofString "chunks", ch), (Str.ofString "total", .int t), (Str.ofString "name", .bytes c.1), (Str.ofString "body", .bytes c.2)], some (Str.ofString "parts", ps.map D.bytes)⟩ := by
    conv in forTg _ => whnf
    unfold cD C1
    simp +decide only [a_tup, st_nil, st_cons, stO_some, nl_bytes, sh33, sh35, sh52, sh54, u4_7, u4_9]
  have hB : execs (C1 (k + 1) 4) 96 ⟨[(Str.ofString "chunks", ch), (Str.ofString "total", .int t), (Str.ofString "name", .bytes c.1), (Str.ofString "body", .bytes c.2)], some (Str.ofString "parts", ps.map D.bytes)⟩ (forBd (stAt (fnAt P1 4) 2)) = .raise := by
    conv in forBd _ => whnf
    unfold C1
    have l1 : c.1.length ≤ line := by unfold line; (first | lia | omega)
    have a1 : (((c.1.length : Nat) : Int) == 4) = false := by simp; (first | lia | omega)
    simp +decide only [getR_some, bind_ok, e_const, e_name, e_call, es_nil, es_cons, c_int, c_str, m_ne, neR_some, q_int, isB, k_len, len_b, t_cmp, ch_one, ss_cons, seq_raise, s_if, ifO_t, s_raise, rsO_str, Bool.and_true, Bool.not_false, lm_one, ns_nil, ns_cons, ns_Name, bm_Constant, ns_Constant, sh26, sh47, u4_6, bb27, u4_17, u4_18, l1, a1]
  rw [for_cons, hA, forA_some, hB, forB_raise]

theorem wc_stepB (k : Nat) (ch : D) (t : Int) (nm0 bd0 sz0 pd0 : D) (ps : List (List UInt8)) (c : Ch) (r : List D) (h4 : c.1.length = 4) (h0 : c.2.length < 16777216) (hz : ps.length ≤ 900) :
    forO (C1 (k + 1) 4) 96 (forTg (stAt (fnAt P1 4) 2)) (forBd (stAt (fnAt P1 4) 2)) (cD c :: r) ⟨[(Str.ofString "chunks", ch), (Str.ofString "total", .int t), (Str.ofString "name", nm0), (Str.ofString "body", bd0), (Str.ofString "size", sz0), (Str.ofString "pad", pd0)], some (Str.ofString "parts", ps.map D.bytes)⟩ =
      forO (C1 (k + 1) 4) 96 (forTg (stAt (fnAt P1 4) 2)) (forBd (stAt (fnAt P1 4) 2)) r ⟨[(Str.ofString "chunks", ch), (Str.ofString "total", .int (t + 8 + c.2.length + (c.2.length : Int) % 2)), (Str.ofString "name", .bytes c.1), (Str.ofString "body", .bytes c.2), (Str.ofString "size", .int c.2.length), (Str.ofString "pad", .int ((c.2.length : Int) % 2))], some (Str.ofString "parts", (ps ++ pieces c).map D.bytes)⟩ := by
  have hA : assignD (C1 (k + 1) 4) ⟨[(Str.ofString "chunks", ch), (Str.ofString "total", .int t), (Str.ofString "name", nm0), (Str.ofString "body", bd0), (Str.ofString "size", sz0), (Str.ofString "pad", pd0)], some (Str.ofString "parts", ps.map D.bytes)⟩ (forTg (stAt (fnAt P1 4) 2)) (cD c) = some ⟨[(Str.ofString "chunks", ch), (Str.ofString "total", .int t), (Str.ofString "name", .bytes c.1), (Str.ofString "body", .bytes c.2), (Str.ofString "size", sz0), (Str.ofString "pad", pd0)], some (Str.ofString "parts", ps.map D.bytes)⟩ := by
    conv in forTg _ => whnf
    unfold cD C1
    simp +decide only [a_tup, st_nil, st_cons, stO_some, nl_bytes, sh36, sh37, sh52, sh54, u4_7, u4_9]
  have hB : execs (C1 (k + 1) 4) 96 ⟨[(Str.ofString "chunks", ch), (Str.ofString "total", .int t), (Str.ofString "name", .bytes c.1), (Str.ofString "body", .bytes c.2), (Str.ofString "size", sz0), (Str.ofString "pad", pd0)], some (Str.ofString "parts", ps.map D.bytes)⟩ (forBd (stAt (fnAt P1 4) 2)) = .next ⟨[(Str.ofString "chunks", ch), (Str.ofString "total", .int (t + 8 + c.2.length + (c.2.length : Int) % 2)), (Str.ofString "name", .bytes c.1), (Str.ofString "body", .bytes c.2), (Str.ofString "size", .int c.2.length), (Str.ofString "pad", .int ((c.2.length : Int) % 2))], some (Str.ofString "parts", (ps ++ pieces c).map D.bytes)⟩ := by
    conv in forBd _ => whnf
    unfold C1
    have l1 : c.1.length ≤ line := by unfold line; (first | lia | omega)
    have l2 : c.2.length ≤ line := by unfold line; (first | lia | omega)
    have w := ev_wu4 k c.2.length (by (first | lia | omega)) (by (first | lia | omega))
    have p0 : (ps.map D.bytes).length ≤ 1000000 := by rw [List.length_map]; (first | lia | omega)
    have p1 : (ps.map D.bytes).length + 1 ≤ 1000000 := by rw [List.length_map]; (first | lia | omega)
    have p2 : (ps.map D.bytes).length + 1 + 1 ≤ 1000000 := by rw [List.length_map]; (first | lia | omega)
    have p3 : (ps.map D.bytes).length + 1 + 1 + 1 ≤ 1000000 := by rw [List.length_map]; (first | lia | omega)
    have a1 : (((c.1.length : Nat) : Int) == 4) = true := by rw [h4]; rfl
    cases a2 : ((c.2.length : Int) % 2 == 1) with
    | true =>
      have e : c.2.length % 2 = 1 := by have := of_decide_eq_true a2; (first | lia | omega)
      have ep : (ps ++ pieces c).map D.bytes = ps.map D.bytes ++ [.bytes c.1] ++ [.bytes (le4 c.2.length)] ++ [.bytes c.2] ++ [.bytes [0]] := by unfold pieces; rw [if_pos e]; simp
      rw [ep]
      simp +decide only [getR_some, bind_ok, e_const, e_name, e_bin, e_call, es_nil, es_cons, c_int, c_bytes, b_add, b_mod, m_eq, m_ne, eqR_some, neR_some, q_int, isB, isF, k_len, len_b, t_cmp, ch_one, ss_nil, ss_cons, seq_next, s_if, ifO_t, ifO_f, asgO_ok, ofS_some, a_name, s_app, appO_ok, String.reduceEq, decide_false, Bool.and_true, Bool.not_true, Bool.not_false, beq_self_eq_true, lm_one, ns_nil, ns_cons, ns_Name, bm_Constant, ns_Constant, ns_Call, List.length_cons, List.length_nil, List.length_append, Nat.zero_add, nl_int, nl_bytes, Int.reduceLT, sh24, sh26, sh27, sh28, sh29, sh34, sh40, sh42, sh44, sh47, sh48, sh50, sh51, sh55, sh56, sh57, s_asgB, s_asgK, u4_3, u4_4, u4_5, u4_6, u4_8, u4_10, u4_11, u4_12, u4_13, bb27, u4_17, bb24, u4_20, l1, l2, w, p0, p1, p2, p3, a1, a2]
    | false =>
      have e : ¬ c.2.length % 2 = 1 := by have := of_decide_eq_false a2; (first | lia | omega)
      have ep : (ps ++ pieces c).map D.bytes = ps.map D.bytes ++ [.bytes c.1] ++ [.bytes (le4 c.2.length)] ++ [.bytes c.2] := by unfold pieces; rw [if_neg e]; simp
      rw [ep]
      simp +decide only [getR_some, bind_ok, e_const, e_name, e_bin, e_call, es_nil, es_cons, c_int, b_add, b_mod, m_eq, m_ne, eqR_some, neR_some, q_int, isB, isF, k_len, len_b, t_cmp, ch_one, ss_nil, ss_cons, seq_next, s_if, ifO_f, asgO_ok, ofS_some, a_name, s_app, appO_ok, String.reduceEq, decide_false, Bool.and_true, Bool.not_true, Bool.not_false, beq_self_eq_true, lm_one, ns_nil, ns_cons, ns_Name, bm_Constant, ns_Constant, ns_Call, List.length_cons, List.length_nil, List.length_append, Nat.zero_add, nl_int, nl_bytes, Int.reduceLT, sh24, sh26, sh27, sh28, sh29, sh34, sh40, sh42, sh44, sh47, sh48, sh50, sh51, sh55, sh56, sh57, s_asgB, s_asgK, u4_3, u4_4, u4_5, u4_6, u4_8, u4_10, u4_11, u4_12, u4_13, bb27, u4_17, bb24, u4_20, l1, l2, w, p0, p1, p2, a1, a2]
  rw [for_cons, hA, forA_some, hB, forB_next]
theorem wc_badB (k : Nat) (ch : D) (t : Int) (nm0 bd0 sz0 pd0 : D) (ps : List (List UInt8)) (c : Ch) (r : List D) (h4 : c.1.length ≠ 4) (h0 : c.1.length < 16777216) :
    forO (C1 (k + 1) 4) 96 (forTg (stAt (fnAt P1 4) 2)) (forBd (stAt (fnAt P1 4) 2)) (cD c :: r) ⟨[(Str.ofString "chunks", ch), (Str.ofString "total", .int t), (Str.ofString "name", nm0), (Str.ofString "body", bd0), (Str.ofString "size", sz0), (Str.ofString "pad", pd0)], some (Str.ofString "parts", ps.map D.bytes)⟩ = .raise := by
  have hA : assignD (C1 (k + 1) 4) ⟨[(Str.ofString "chunks", ch), (Str.ofString "total", .int t), (Str.ofString "name", nm0), (Str.ofString "body", bd0), (Str.ofString "size", sz0), (Str.ofString "pad", pd0)], some (Str.ofString "parts", ps.map D.bytes)⟩ (forTg (stAt (fnAt P1 4) 2)) (cD c) = some ⟨[(Str.ofString "chunks", ch), (Str.ofString "total", .int t), (Str.ofString "name", .bytes c.1), (Str.ofString "body", .bytes c.2), (Str.ofString "size", sz0), (Str.ofString "pad", pd0)], some (Str.ofString "parts", ps.map D.bytes)⟩ := by
    conv in forTg _ => whnf
    unfold cD C1
    simp +decide only [a_tup, st_nil, st_cons, stO_some, nl_bytes, sh36, sh37, sh52, sh54, u4_7, u4_9]
  have hB : execs (C1 (k + 1) 4) 96 ⟨[(Str.ofString "chunks", ch), (Str.ofString "total", .int t), (Str.ofString "name", .bytes c.1), (Str.ofString "body", .bytes c.2), (Str.ofString "size", sz0), (Str.ofString "pad", pd0)], some (Str.ofString "parts", ps.map D.bytes)⟩ (forBd (stAt (fnAt P1 4) 2)) = .raise := by
    conv in forBd _ => whnf
    unfold C1
    have l1 : c.1.length ≤ line := by unfold line; (first | lia | omega)
    have a1 : (((c.1.length : Nat) : Int) == 4) = false := by simp; (first | lia | omega)
    simp +decide only [getR_some, bind_ok, e_const, e_name, e_call, es_nil, es_cons, c_int, c_str, m_ne, neR_some, q_int, isB, k_len, len_b, t_cmp, ch_one, ss_cons, seq_raise, s_if, ifO_t, s_raise, rsO_str, Bool.and_true, Bool.not_false, lm_one, ns_nil, ns_cons, ns_Name, bm_Constant, ns_Constant, sh26, sh47, u4_6, bb27, u4_17, u4_18, l1, a1]
  rw [for_cons, hA, forA_some, hB, forB_raise]

theorem wc_loop (k : Nat) (ch : D) : ∀ (cs : List Ch) (t : Int) (nm0 bd0 sz0 pd0 : D) (ps : List (List UInt8)), (∀ c ∈ cs, c.1.length = 4 ∧ c.2.length < 16777216) → ps.length + 4 * cs.length ≤ 900 →
    ∃ nm1 bd1 sz1 pd1, forO (C1 (k + 1) 4) 96 (forTg (stAt (fnAt P1 4) 2)) (forBd (stAt (fnAt P1 4) 2)) (cs.map cD) ⟨[(Str.ofString "chunks", ch), (Str.ofString "total", .int t), (Str.ofString "name", nm0), (Str.ofString "body", bd0), (Str.ofString "size", sz0), (Str.ofString "pad", pd0)], some (Str.ofString "parts", ps.map D.bytes)⟩ = .next ⟨[(Str.ofString "chunks", ch), (Str.ofString "total", .int (t + (encs cs).length)), (Str.ofString "name", nm1), (Str.ofString "body", bd1), (Str.ofString "size", sz1), (Str.ofString "pad", pd1)], some (Str.ofString "parts", (ps ++ cs.flatMap pieces).map D.bytes)⟩
  | [], t, nm0, bd0, sz0, pd0, ps, _, _ => ⟨nm0, bd0, sz0, pd0, by rw [List.map_nil, for_nil]; simp [encs]⟩
  | c :: cs, t, nm0, bd0, sz0, pd0, ps, h, hz => by
    have hc := h c List.mem_cons_self
    rw [List.length_cons] at hz
    rw [List.map_cons, wc_stepB k ch t nm0 bd0 sz0 pd0 ps c _ hc.1 hc.2 (by (first | lia | omega))]
    have hp := pieces_len c
    obtain ⟨a1, a2, a3, a4, e⟩ := wc_loop k ch cs (t + 8 + c.2.length + (c.2.length : Int) % 2) (.bytes c.1) (.bytes c.2) (.int c.2.length) (.int ((c.2.length : Int) % 2)) (ps ++ pieces c) (fun x hx => h x (List.mem_cons_of_mem _ hx)) (by rw [List.length_append]; (first | lia | omega))
    refine ⟨a1, a2, a3, a4, ?_⟩
    rw [e]
    have el : t + 8 + (c.2.length : Int) + (c.2.length : Int) % 2 + (encs cs).length = t + (encs (c :: cs)).length := by
      have : (encs (c :: cs)).length = (encC 0 c).length + (encs cs).length := by simp [encs]
      rw [this, encC_len, hc.1]
      (first | lia | omega)
    rw [el, List.flatMap_cons, List.append_assoc]
theorem wc_loop_bad (k : Nat) (ch : D) : ∀ (cs : List Ch) (t : Int) (nm0 bd0 sz0 pd0 : D) (ps : List (List UInt8)), (∃ c ∈ cs, c.1.length ≠ 4) → (∀ c ∈ cs, c.1.length < 16777216 ∧ c.2.length < 16777216) → ps.length + 4 * cs.length ≤ 900 →
    forO (C1 (k + 1) 4) 96 (forTg (stAt (fnAt P1 4) 2)) (forBd (stAt (fnAt P1 4) 2)) (cs.map cD) ⟨[(Str.ofString "chunks", ch), (Str.ofString "total", .int t), (Str.ofString "name", nm0), (Str.ofString "body", bd0), (Str.ofString "size", sz0), (Str.ofString "pad", pd0)], some (Str.ofString "parts", ps.map D.bytes)⟩ = .raise
  | [], t, nm0, bd0, sz0, pd0, ps, h, _, _ => by obtain ⟨c, hc, _⟩ := h; cases hc
  | c :: cs, t, nm0, bd0, sz0, pd0, ps, h, hl, hz => by
    have hc := hl c List.mem_cons_self
    rw [List.length_cons] at hz
    by_cases h4 : c.1.length = 4
    · rw [List.map_cons, wc_stepB k ch t nm0 bd0 sz0 pd0 ps c _ h4 hc.2 (by (first | lia | omega))]
      have hp := pieces_len c
      refine wc_loop_bad k ch cs _ _ _ _ _ _ ?_ (fun x hx => hl x (List.mem_cons_of_mem _ hx)) (by rw [List.length_append]; (first | lia | omega))
      obtain ⟨x, hx, hx4⟩ := h
      rcases List.mem_cons.mp hx with rfl | hx
      · exact absurd h4 hx4
      · exact ⟨x, hx, hx4⟩
    · rw [List.map_cons]
      exact wc_badB k ch t nm0 bd0 sz0 pd0 ps c _ h4 hc.1

theorem flat_pieces (cs : List Ch) : (cs.flatMap pieces).flatten = encs cs := by
  induction cs with
  | nil => rfl
  | cons c r ih => rw [List.flatMap_cons, List.flatten_append, ih, pieces_flat]; simp [encs]
theorem pieces_all (cs : List Ch) : (cs.flatMap pieces).length ≤ 4 * cs.length := by
  induction cs with
  | nil => simp
  | cons c r ih => rw [List.flatMap_cons, List.length_append, List.length_cons]; have := pieces_len c; (first | lia | omega)
theorem ev_wc (k : Nat) (cs : List Ch) (h : ∀ c ∈ cs, c.1.length = 4 ∧ c.2.length < 16777216) (hz : cs.length ≤ 200) (hl : (encs cs).length + 100 ≤ line) : Fk Q1 (k + 2) (Str.ofString "write_chunks") [.lst (cs.map cD)] = .ok (.bytes (plain cs)) := by
  rw [Fk_at (fnAt P1 4) (by rw [nat_Q1]; rfl) fnd1_4 ⟨rfl, by simp⟩]
  rw [show (fnAt P1 4).xs = [Str.ofString "chunks"] from rfl]
  rw [show Q1.fns = fns1 from rfl, show Q1.G = G1 from rfl, show Q1.B = B1 from rfl]
  conv in (fnAt P1 4).body => whnf
  have w := ev_wu4 k (4 + (encs cs).length) (by (first | lia | omega)) (by unfold line at hl; (first | lia | omega))
  have fin : ∀ rho, execs ⟨Fk Q1 (k + 1), fns1, G1, B1, (fnAt P1 4).scope⟩ 97 ⟨(Str.ofString "chunks", .lst (cs.map cD)) :: (Str.ofString "total", .int (4 + (encs cs).length)) :: rho, some (Str.ofString "parts", ([wave] ++ cs.flatMap pieces).map D.bytes)⟩ ((fnAt P1 4).body.drop 3) = .ret (.bytes (plain cs)) := by
    intro rho
    conv in (fnAt P1 4).body.drop 3 => whnf
    have e1 : ([wave] ++ cs.flatMap pieces).flatten = wave ++ encs cs := by rw [List.flatten_append, flat_pieces]; simp
    have hj := j_ok (([wave] ++ cs.flatMap pieces).map D.bytes) _ (all_map _) ⟨by simp, by rw [List.length_map, List.length_append]; have := pieces_all cs; show 1 + _ ≤ 1000; (first | lia | omega), by rw [e1, List.length_append]; show 4 + _ ≤ _; (first | lia | omega)⟩
    have lp : ∀ v, look (put rho (Str.ofString "inner") v) (Str.ofString "inner") = some v := fun v => by rw [look_put, if_pos rfl]
    have l2 : 8 + (4 + (encs cs).length) ≤ line := by (first | lia | omega)
    rw [e1] at hj
    generalize hg : ([wave] ++ cs.flatMap pieces).map D.bytes = pd at hj
    simp +decide only [getR_some, bind_ok, e_const, e_name, e_bin, e_call, e_join, es_nil, es_cons, c_int, c_bytes, b_cat, isF, ss_cons, seq_next, seq_ret, s_ret, retO_ok, asgO_ok, ofS_some, a_name, reduceIte, Bool.and_true, beq_self_eq_true, ns_nil, ns_cons, ns_Name, ns_Constant, List.length_cons, List.length_nil, List.length_append, Nat.reduceAdd, Nat.zero_add, nl_bytes, List.nil_append, List.cons_append, sh46, sh49, sh51, sh53, s_asgK, u4_2, u4_4, u4_14, u4_15, bb24, u4_20, w, hj, l2, lp, le4_len, wave_len, look_str, put_str]
    rfl
  cases cs with
  | nil =>
    simp +decide only [getR_some, bind_ok, e_const, es_nil, es_cons, c_int, c_bytes, ss_cons, seq_next, asgO_ok, ofS_some, a_name, s_own, ownO_ok, s_for, forR_ok, i_name, itN_o, String.reduceEq, decide_false, Bool.and_true, Bool.not_false, List.length_cons, List.length_nil, Nat.zero_add, nl_int, nl_bytes, nls_nil, nls_cons, and_self, List.zip_cons_cons, List.zip_nil_right, sh23, sh31, sh43, sh45, sh57, s_asgC, u4_0, u4_1, u4_3, u4_5]
    exact congrArg outR (fin [])
  | cons c r =>
    have hc := h c List.mem_cons_self
    have e0 := wc_stepA k (.lst ((c :: r).map cD)) 4 [wave] c (r.map cD) hc.1 hc.2 (by decide)
    obtain ⟨a1, a2, a3, a4, e⟩ := wc_loop k (.lst ((c :: r).map cD)) r (4 + 8 + c.2.length + (c.2.length : Int) % 2) (.bytes c.1) (.bytes c.2) (.int c.2.length) (.int ((c.2.length : Int) % 2)) ([wave] ++ pieces c) (fun x hx => h x (List.mem_cons_of_mem _ hx)) (by rw [List.length_append]; have := pieces_len c; rw [List.length_cons] at hz; simp; (first | lia | omega))
    rw [e] at e0
    have el : (4 : Int) + 8 + (c.2.length : Int) + (c.2.length : Int) % 2 + (encs r).length = 4 + (encs (c :: r)).length := by
      have : (encs (c :: r)).length = (encC 0 c).length + (encs r).length := by simp [encs]
      rw [this, encC_len, hc.1]
      (first | lia | omega)
    rw [el, List.append_assoc, ← List.flatMap_cons] at e0
    simp +decide only [getR_some, bind_ok, e_const, es_nil, es_cons, c_int, c_bytes, ss_cons, seq_next, asgO_ok, ofS_some, a_name, s_own, ownO_ok, s_for, forR_ok, i_name, itN_o, String.reduceEq, decide_false, Bool.and_true, Bool.not_false, List.length_cons, List.length_nil, Nat.zero_add, nl_int, nl_bytes, nls_nil, nls_cons, and_self, List.zip_cons_cons, List.zip_nil_right, sh23, sh31, sh43, sh45, sh57, s_asgC, u4_0, u4_1, u4_3, u4_5]
    refine (congrArg (fun o => outR (seqO o _ _ _)) e0).trans ?_
    exact congrArg outR (fin _)
theorem ev_wc_bad (k : Nat) (cs : List Ch) (h : ∃ c ∈ cs, c.1.length ≠ 4) (hl : ∀ c ∈ cs, c.1.length < 16777216 ∧ c.2.length < 16777216) (hz : cs.length ≤ 200) : Fk Q1 (k + 2) (Str.ofString "write_chunks") [.lst (cs.map cD)] = .raise := by
  rw [Fk_at (fnAt P1 4) (by rw [nat_Q1]; rfl) fnd1_4 ⟨rfl, by simp⟩]
  rw [show (fnAt P1 4).xs = [Str.ofString "chunks"] from rfl]
  rw [show Q1.fns = fns1 from rfl, show Q1.G = G1 from rfl, show Q1.B = B1 from rfl]
  conv in (fnAt P1 4).body => whnf
  cases cs with
  | nil => obtain ⟨c, hc, _⟩ := h; cases hc
  | cons c r =>
    have hc := hl c List.mem_cons_self
    rw [List.length_cons] at hz
    have e0 : forO (C1 (k + 1) 4) 96 (forTg (stAt (fnAt P1 4) 2)) (forBd (stAt (fnAt P1 4) 2)) (cD c :: r.map cD) ⟨[(Str.ofString "chunks", .lst ((c :: r).map cD)), (Str.ofString "total", .int 4)], some (Str.ofString "parts", [wave].map D.bytes)⟩ = .raise := by
      by_cases h4 : c.1.length = 4
      · rw [wc_stepA k (.lst ((c :: r).map cD)) 4 [wave] c (r.map cD) h4 hc.2 (by decide)]
        refine wc_loop_bad k _ r _ _ _ _ _ _ ?_ (fun x hx => hl x (List.mem_cons_of_mem _ hx)) (by rw [List.length_append]; have := pieces_len c; show 1 + _ + _ ≤ 900; (first | lia | omega))
        obtain ⟨x, hx, hx4⟩ := h
        rcases List.mem_cons.mp hx with rfl | hx
        · exact absurd h4 hx4
        · exact ⟨x, hx, hx4⟩
      · exact wc_badA k _ 4 [wave] c (r.map cD) h4 hc.1
    simp +decide only [getR_some, bind_ok, e_const, es_nil, es_cons, c_int, c_bytes, ss_cons, seq_next, asgO_ok, ofS_some, a_name, s_own, ownO_ok, s_for, forR_ok, i_name, itN_o, String.reduceEq, decide_false, Bool.and_true, Bool.not_false, List.length_cons, List.length_nil, Nat.zero_add, nl_int, nl_bytes, nls_nil, nls_cons, and_self, List.zip_cons_cons, List.zip_nil_right, sh23, sh31, sh43, sh45, sh57, s_asgC, u4_0, u4_1, u4_3, u4_5]
    exact congrArg (fun o => outR (seqO o _ _ _)) e0
end
end Mine
namespace Mine
section
open PySem

noncomputable def encF (spot dirt : Int) : Int → List Ch → List UInt8
  | _, [] => []
  | a, c :: r => encC (byte (if a = spot then dirt else 0)) c ++ encF spot dirt (a + 1) r
noncomputable def plainF (spot dirt : Int) (cs : List Ch) : List UInt8 := riff ++ le4 (4 + (encF spot dirt 0 cs).length) ++ (wave ++ encF spot dirt 0 cs)
theorem encF_zero (spot : Int) : ∀ (cs : List Ch) (a : Int), encF spot 0 a cs = encs cs
  | [], _ => rfl
  | c :: r, a => by
    show encC (byte (if a = spot then 0 else 0)) c ++ _ = encC 0 c ++ encs r
    rw [encF_zero spot r]
    split <;> rfl
theorem plainF_zero (spot : Int) (cs : List Ch) : plainF spot 0 cs = plain cs := by unfold plainF plain; rw [encF_zero]
theorem encF_len (spot dirt : Int) : ∀ (cs : List Ch) (a : Int), (encF spot dirt a cs).length = (encs cs).length
  | [], _ => rfl
  | c :: r, a => by
    show (encC _ c ++ encF spot dirt (a + 1) r).length = (encC 0 c ++ encs r).length
    rw [List.length_append, List.length_append, encC_len, encC_len, encF_len spot dirt r]

theorem pl_stepA (k : Nat) (ch : D) (spot dirt at_ : Int) (inner : List UInt8) (c : Ch) (r : List D) (hd : 0 ≤ dirt ∧ dirt < 256) (h0 : inner.length + c.1.length + c.2.length + 10 ≤ line) :
    forO (C1 (k + 1) 25) 96 (forTg (stAt (fnAt P1 25) 2)) (forBd (stAt (fnAt P1 25) 2)) (cD c :: r) ⟨[(Str.ofString "chunks", ch), (Str.ofString "spot", .int spot), (Str.ofString "dirt", .int dirt), (Str.ofString "inner", .bytes inner), (Str.ofString "at", .int at_)], none⟩ = forO (C1 (k + 1) 25) 96 (forTg (stAt (fnAt P1 25) 2)) (forBd (stAt (fnAt P1 25) 2)) r ⟨[(Str.ofString "chunks", ch), (Str.ofString "spot", .int spot), (Str.ofString "dirt", .int dirt), (Str.ofString "inner", .bytes (inner ++ encC (byte (if at_ = spot then dirt else 0)) c)), (Str.ofString "at", .int (at_ + 1)), (Str.ofString "name", .bytes c.1), (Str.ofString "body", .bytes c.2), (Str.ofString "pad", .int (if at_ = spot then dirt else 0))], none⟩ := by
  have hA : assignD (C1 (k + 1) 25) ⟨[(Str.ofString "chunks", ch), (Str.ofString "spot", .int spot), (Str.ofString "dirt", .int dirt), (Str.ofString "inner", .bytes inner), (Str.ofString "at", .int at_)], none⟩ (forTg (stAt (fnAt P1 25) 2)) (cD c) = some ⟨[(Str.ofString "chunks", ch), (Str.ofString "spot", .int spot), (Str.ofString "dirt", .int dirt), (Str.ofString "inner", .bytes inner), (Str.ofString "at", .int at_), (Str.ofString "name", .bytes c.1), (Str.ofString "body", .bytes c.2)], none⟩ := by
    conv in forTg _ => whnf
    unfold cD C1
    simp +decide only [set_n, a_tup, st_nil, st_cons, stO_some, sh166, sh167, u25_11, u25_13]
  have hB : execs (C1 (k + 1) 25) 96 ⟨[(Str.ofString "chunks", ch), (Str.ofString "spot", .int spot), (Str.ofString "dirt", .int dirt), (Str.ofString "inner", .bytes inner), (Str.ofString "at", .int at_), (Str.ofString "name", .bytes c.1), (Str.ofString "body", .bytes c.2)], none⟩ (forBd (stAt (fnAt P1 25) 2)) = .next ⟨[(Str.ofString "chunks", ch), (Str.ofString "spot", .int spot), (Str.ofString "dirt", .int dirt), (Str.ofString "inner", .bytes (inner ++ encC (byte (if at_ = spot then dirt else 0)) c)), (Str.ofString "at", .int (at_ + 1)), (Str.ofString "name", .bytes c.1), (Str.ofString "body", .bytes c.2), (Str.ofString "pad", .int (if at_ = spot then dirt else 0))], none⟩ := by
    conv in forBd _ => whnf
    unfold C1
    have l2 : c.2.length ≤ line := by (first | lia | omega)
    have w := ev_four k c.2.length
    have p0 : inner.length + c.1.length ≤ line := by (first | lia | omega)
    have p1 : inner.length + c.1.length + 4 ≤ line := by (first | lia | omega)
    have p2 : inner.length + c.1.length + 4 + c.2.length ≤ line := by (first | lia | omega)
    have p3 : inner.length + c.1.length + 4 + c.2.length + 1 ≤ line := by (first | lia | omega)
    have z0 : (0 : Int) ≤ 0 ∧ (0 : Int) < 256 := by decide
    cases a1 : (at_ == spot) with
    | true =>
      have e1 : at_ = spot := by simpa using a1
      cases a2 : ((c.2.length : Int) % 2 == 1) with
      | true =>
        have e : c.2.length % 2 = 1 := by have := of_decide_eq_true a2; (first | lia | omega)
        simp +decide only [getR_some, get_n, set_n, bind_ok, e_const, e_name, e_bin, e_call, e_lst, es_nil, es_cons, c_int, b_add, b_mod, b_cat, m_eq, eqR_some, q_int, isB, isF, k_len, k_bytes, len_b, t_cmp, ch_one, ss_nil, ss_cons, seq_next, s_if, ifO_t, asgO_ok, ofS_some, a_name, Bool.and_true, lm_one, ns_nil, ns_cons, bm_Name, ns_Name, bm_Constant, ns_Call, ns_List, List.length_cons, List.length_nil, List.length_append, Nat.zero_add, bytesD_l, bytR_some, by_nil, by_cons, Option.map_some, and_self, Int.reduceLT, sh155, sh156, sh157, sh158, sh159, sh160, sh161, sh164, sh165, sh170, sh171, s_asgNm, s_asgC, s_asgB, u25_2, u25_4, u25_6, u25_7, u25_8, u25_9, u25_10, u25_12, u25_14, u25_15, bb9, u25_17, bb27, u25_19, bb25, u25_21, l2, w, p0, p1, p2, p3, a1, a2, hd, le4_len]
        simp [encC, e, e1]
      | false =>
        have e : ¬ c.2.length % 2 = 1 := by have := of_decide_eq_false a2; (first | lia | omega)
        simp +decide only [getR_some, get_n, set_n, bind_ok, e_const, e_name, e_bin, e_call, es_nil, es_cons, c_int, b_add, b_mod, b_cat, m_eq, eqR_some, q_int, isB, isF, k_len, len_b, t_cmp, ch_one, ss_nil, ss_cons, seq_next, s_if, ifO_t, ifO_f, asgO_ok, ofS_some, a_name, Bool.and_true, lm_one, ns_nil, ns_cons, bm_Name, ns_Name, bm_Constant, ns_Call, List.length_append, Int.reduceLT, sh155, sh156, sh157, sh158, sh159, sh160, sh164, sh165, sh170, sh171, s_asgNm, s_asgC, s_asgB, u25_2, u25_4, u25_6, u25_7, u25_8, u25_9, u25_10, u25_12, u25_15, bb9, u25_17, bb27, u25_19, l2, w, p0, p1, p2, a1, a2, le4_len]
        simp [encC, e, e1]
    | false =>
      have e1 : ¬ at_ = spot := by simpa using a1
      cases a2 : ((c.2.length : Int) % 2 == 1) with
      | true =>
        have e : c.2.length % 2 = 1 := by have := of_decide_eq_true a2; (first | lia | omega)
        simp +decide only [getR_some, get_n, set_n, bind_ok, e_const, e_name, e_bin, e_call, e_lst, es_nil, es_cons, c_int, b_add, b_mod, b_cat, m_eq, eqR_some, q_int, isB, isF, k_len, k_bytes, len_b, t_cmp, ch_one, ss_nil, ss_cons, seq_next, s_if, ifO_t, ifO_f, asgO_ok, ofS_some, a_name, Bool.and_true, lm_one, ns_nil, ns_cons, bm_Name, ns_Name, bm_Constant, ns_Call, ns_List, List.length_cons, List.length_nil, List.length_append, Nat.zero_add, bytesD_l, bytR_some, by_nil, by_cons, Option.map_some, and_self, Int.reduceLT, sh155, sh157, sh158, sh159, sh160, sh161, sh164, sh165, sh170, s_asgC, s_asgB, u25_2, u25_6, u25_7, u25_8, u25_9, u25_10, u25_12, u25_14, u25_15, bb9, u25_17, bb27, u25_19, bb25, u25_21, l2, w, p0, p1, p2, p3, a1, a2, z0, le4_len]
        simp [encC, e, e1]
      | false =>
        have e : ¬ c.2.length % 2 = 1 := by have := of_decide_eq_false a2; (first | lia | omega)
        simp +decide only [getR_some, get_n, set_n, bind_ok, e_const, e_name, e_bin, e_call, es_nil, es_cons, c_int, b_add, b_mod, b_cat, m_eq, eqR_some, q_int, isB, isF, k_len, len_b, t_cmp, ch_one, ss_nil, ss_cons, seq_next, s_if, ifO_f, asgO_ok, ofS_some, a_name, Bool.and_true, lm_one, ns_nil, ns_cons, bm_Name, ns_Name, bm_Constant, ns_Call, List.length_append, Int.reduceLT, sh155, sh157, sh158, sh159, sh160, sh164, sh165, sh170, s_asgC, s_asgB, u25_2, u25_6, u25_7, u25_8, u25_9, u25_10, u25_12, u25_15, bb9, u25_17, bb27, u25_19, l2, w, p0, p1, p2, a1, a2, le4_len]
        simp [encC, e, e1]
  rw [for_cons, hA, forA_some, hB, forB_next]

theorem pl_stepB (k : Nat) (ch : D) (spot dirt at_ : Int) (nm0 bd0 pd0 : D) (inner : List UInt8) (c : Ch) (r : List D) (hd : 0 ≤ dirt ∧ dirt < 256) (h0 : inner.length + c.1.length + c.2.length + 10 ≤ line) :
    forO (C1 (k + 1) 25) 96 (forTg (stAt (fnAt P1 25) 2)) (forBd (stAt (fnAt P1 25) 2)) (cD c :: r) ⟨[(Str.ofString "chunks", ch), (Str.ofString "spot", .int spot), (Str.ofString "dirt", .int dirt), (Str.ofString "inner", .bytes inner), (Str.ofString "at", .int at_), (Str.ofString "name", nm0), (Str.ofString "body", bd0), (Str.ofString "pad", pd0)], none⟩ = forO (C1 (k + 1) 25) 96 (forTg (stAt (fnAt P1 25) 2)) (forBd (stAt (fnAt P1 25) 2)) r ⟨[(Str.ofString "chunks", ch), (Str.ofString "spot", .int spot), (Str.ofString "dirt", .int dirt), (Str.ofString "inner", .bytes (inner ++ encC (byte (if at_ = spot then dirt else 0)) c)), (Str.ofString "at", .int (at_ + 1)), (Str.ofString "name", .bytes c.1), (Str.ofString "body", .bytes c.2), (Str.ofString "pad", .int (if at_ = spot then dirt else 0))], none⟩ := by
  have hA : assignD (C1 (k + 1) 25) ⟨[(Str.ofString "chunks", ch), (Str.ofString "spot", .int spot), (Str.ofString "dirt", .int dirt), (Str.ofString "inner", .bytes inner), (Str.ofString "at", .int at_), (Str.ofString "name", nm0), (Str.ofString "body", bd0), (Str.ofString "pad", pd0)], none⟩ (forTg (stAt (fnAt P1 25) 2)) (cD c) = some ⟨[(Str.ofString "chunks", ch), (Str.ofString "spot", .int spot), (Str.ofString "dirt", .int dirt), (Str.ofString "inner", .bytes inner), (Str.ofString "at", .int at_), (Str.ofString "name", .bytes c.1), (Str.ofString "body", .bytes c.2), (Str.ofString "pad", pd0)], none⟩ := by
    conv in forTg _ => whnf
    unfold cD C1
    simp +decide only [set_n, a_tup, st_nil, st_cons, stO_some, sh168, sh169, u25_11, u25_13]
  have hB : execs (C1 (k + 1) 25) 96 ⟨[(Str.ofString "chunks", ch), (Str.ofString "spot", .int spot), (Str.ofString "dirt", .int dirt), (Str.ofString "inner", .bytes inner), (Str.ofString "at", .int at_), (Str.ofString "name", .bytes c.1), (Str.ofString "body", .bytes c.2), (Str.ofString "pad", pd0)], none⟩ (forBd (stAt (fnAt P1 25) 2)) = .next ⟨[(Str.ofString "chunks", ch), (Str.ofString "spot", .int spot), (Str.ofString "dirt", .int dirt), (Str.ofString "inner", .bytes (inner ++ encC (byte (if at_ = spot then dirt else 0)) c)), (Str.ofString "at", .int (at_ + 1)), (Str.ofString "name", .bytes c.1), (Str.ofString "body", .bytes c.2), (Str.ofString "pad", .int (if at_ = spot then dirt else 0))], none⟩ := by
    conv in forBd _ => whnf
    unfold C1
    have l2 : c.2.length ≤ line := by (first | lia | omega)
    have w := ev_four k c.2.length
    have p0 : inner.length + c.1.length ≤ line := by (first | lia | omega)
    have p1 : inner.length + c.1.length + 4 ≤ line := by (first | lia | omega)
    have p2 : inner.length + c.1.length + 4 + c.2.length ≤ line := by (first | lia | omega)
    have p3 : inner.length + c.1.length + 4 + c.2.length + 1 ≤ line := by (first | lia | omega)
    have z0 : (0 : Int) ≤ 0 ∧ (0 : Int) < 256 := by decide
    cases a1 : (at_ == spot) with
    | true =>
      have e1 : at_ = spot := by simpa using a1
      cases a2 : ((c.2.length : Int) % 2 == 1) with
      | true =>
        have e : c.2.length % 2 = 1 := by have := of_decide_eq_true a2; (first | lia | omega)
        simp +decide only [getR_some, get_n, set_n, bind_ok, e_const, e_name, e_bin, e_call, e_lst, es_nil, es_cons, c_int, b_add, b_mod, b_cat, m_eq, eqR_some, q_int, isB, isF, k_len, k_bytes, len_b, t_cmp, ch_one, ss_nil, ss_cons, seq_next, s_if, ifO_t, asgO_ok, ofS_some, a_name, Bool.and_true, lm_one, ns_nil, ns_cons, bm_Name, ns_Name, bm_Constant, ns_Call, ns_List, List.length_cons, List.length_nil, List.length_append, Nat.zero_add, bytesD_l, bytR_some, by_nil, by_cons, Option.map_some, and_self, Int.reduceLT, sh155, sh156, sh157, sh158, sh159, sh160, sh161, sh164, sh165, sh171, s_asgNm, s_asgC, s_asgB, u25_2, u25_4, u25_6, u25_7, u25_8, u25_9, u25_10, u25_12, u25_14, u25_15, bb9, u25_17, bb27, u25_19, bb25, u25_21, l2, w, p0, p1, p2, p3, a1, a2, hd, le4_len]
        simp [encC, e, e1]
      | false =>
        have e : ¬ c.2.length % 2 = 1 := by have := of_decide_eq_false a2; (first | lia | omega)
        simp +decide only [getR_some, get_n, set_n, bind_ok, e_const, e_name, e_bin, e_call, es_nil, es_cons, c_int, b_add, b_mod, b_cat, m_eq, eqR_some, q_int, isB, isF, k_len, len_b, t_cmp, ch_one, ss_nil, ss_cons, seq_next, s_if, ifO_t, ifO_f, asgO_ok, ofS_some, a_name, Bool.and_true, lm_one, ns_nil, ns_cons, bm_Name, ns_Name, bm_Constant, ns_Call, List.length_append, Int.reduceLT, sh155, sh156, sh157, sh158, sh159, sh160, sh164, sh165, sh171, s_asgNm, s_asgC, s_asgB, u25_2, u25_4, u25_6, u25_7, u25_8, u25_9, u25_10, u25_12, u25_15, bb9, u25_17, bb27, u25_19, l2, w, p0, p1, p2, a1, a2, le4_len]
        simp [encC, e, e1]
    | false =>
      have e1 : ¬ at_ = spot := by simpa using a1
      cases a2 : ((c.2.length : Int) % 2 == 1) with
      | true =>
        have e : c.2.length % 2 = 1 := by have := of_decide_eq_true a2; (first | lia | omega)
        simp +decide only [getR_some, get_n, set_n, bind_ok, e_const, e_name, e_bin, e_call, e_lst, es_nil, es_cons, c_int, b_add, b_mod, b_cat, m_eq, eqR_some, q_int, isB, isF, k_len, k_bytes, len_b, t_cmp, ch_one, ss_nil, ss_cons, seq_next, s_if, ifO_t, ifO_f, asgO_ok, ofS_some, a_name, Bool.and_true, lm_one, ns_nil, ns_cons, bm_Name, ns_Name, bm_Constant, ns_Call, ns_List, List.length_cons, List.length_nil, List.length_append, Nat.zero_add, bytesD_l, bytR_some, by_nil, by_cons, Option.map_some, and_self, Int.reduceLT, sh155, sh157, sh158, sh159, sh160, sh161, sh164, sh165, sh171, s_asgC, s_asgB, u25_2, u25_6, u25_7, u25_8, u25_9, u25_10, u25_12, u25_14, u25_15, bb9, u25_17, bb27, u25_19, bb25, u25_21, l2, w, p0, p1, p2, p3, a1, a2, z0, le4_len]
        simp [encC, e, e1]
      | false =>
        have e : ¬ c.2.length % 2 = 1 := by have := of_decide_eq_false a2; (first | lia | omega)
        simp +decide only [getR_some, get_n, set_n, bind_ok, e_const, e_name, e_bin, e_call, es_nil, es_cons, c_int, b_add, b_mod, b_cat, m_eq, eqR_some, q_int, isB, isF, k_len, len_b, t_cmp, ch_one, ss_nil, ss_cons, seq_next, s_if, ifO_f, asgO_ok, ofS_some, a_name, Bool.and_true, lm_one, ns_nil, ns_cons, bm_Name, ns_Name, bm_Constant, ns_Call, List.length_append, Int.reduceLT, sh155, sh157, sh158, sh159, sh160, sh164, sh165, sh171, s_asgC, s_asgB, u25_2, u25_6, u25_7, u25_8, u25_9, u25_10, u25_12, u25_15, bb9, u25_17, bb27, u25_19, l2, w, p0, p1, p2, a1, a2, le4_len]
        simp [encC, e, e1]
  rw [for_cons, hA, forA_some, hB, forB_next]

theorem pl_loop (k : Nat) (ch : D) (spot dirt : Int) (hd : 0 ≤ dirt ∧ dirt < 256) : ∀ (cs : List Ch) (at_ : Int) (nm0 bd0 pd0 : D) (inner : List UInt8), inner.length + (encs cs).length + 10 ≤ line →
    ∃ at1 nm1 bd1 pd1, forO (C1 (k + 1) 25) 96 (forTg (stAt (fnAt P1 25) 2)) (forBd (stAt (fnAt P1 25) 2)) (cs.map cD) ⟨[(Str.ofString "chunks", ch), (Str.ofString "spot", .int spot), (Str.ofString "dirt", .int dirt), (Str.ofString "inner", .bytes inner), (Str.ofString "at", .int at_), (Str.ofString "name", nm0), (Str.ofString "body", bd0), (Str.ofString "pad", pd0)], none⟩ = .next ⟨[(Str.ofString "chunks", ch), (Str.ofString "spot", .int spot), (Str.ofString "dirt", .int dirt), (Str.ofString "inner", .bytes (inner ++ encF spot dirt at_ cs)), (Str.ofString "at", at1), (Str.ofString "name", nm1), (Str.ofString "body", bd1), (Str.ofString "pad", pd1)], none⟩
  | [], at_, nm0, bd0, pd0, inner, _ => ⟨_, nm0, bd0, pd0, by rw [List.map_nil, for_nil, encF, List.append_nil]⟩
  | c :: cs, at_, nm0, bd0, pd0, inner, hz => by
    have hlen : (encs (c :: cs)).length = (encC 0 c).length + (encs cs).length := by simp [encs]
    rw [hlen, encC_len] at hz
    rw [List.map_cons, pl_stepB k ch spot dirt at_ nm0 bd0 pd0 inner c _ hd (by (first | lia | omega))]
    obtain ⟨a1, a2, a3, a4, e⟩ := pl_loop k ch spot dirt hd cs (at_ + 1) (.bytes c.1) (.bytes c.2) (.int (if at_ = spot then dirt else 0)) (inner ++ encC (byte (if at_ = spot then dirt else 0)) c) (by rw [List.length_append, encC_len]; (first | lia | omega))
    refine ⟨a1, a2, a3, a4, ?_⟩
    rw [e, encF, List.append_assoc]
theorem ev_plain (k : Nat) (cs : List Ch) (spot dirt : Int) (hd : 0 ≤ dirt ∧ dirt < 256) (hl : (encs cs).length + 100 ≤ line) : Fk Q1 (k + 2) (Str.ofString "_law_plain") [.lst (cs.map cD), .int spot, .int dirt] = .ok (.bytes (plainF spot dirt cs)) := by
  rw [Fk_at (fnAt P1 25) (by rw [nat_Q1]; rfl) fnd1_25 ⟨rfl, by simp⟩]
  rw [show (fnAt P1 25).xs = [Str.ofString "chunks", Str.ofString "spot", Str.ofString "dirt"] from rfl]
  rw [show Q1.fns = fns1 from rfl, show Q1.G = G1 from rfl, show Q1.B = B1 from rfl]
  conv in (fnAt P1 25).body => whnf
  have w := ev_four k (4 + (encF spot dirt 0 cs).length : Nat)
  have fin : ∀ rho, execs ⟨Fk Q1 (k + 1), fns1, G1, B1, (fnAt P1 25).scope⟩ 97 ⟨(Str.ofString "chunks", .lst (cs.map cD)) :: (Str.ofString "spot", .int spot) :: (Str.ofString "dirt", .int dirt) :: (Str.ofString "inner", .bytes (wave ++ encF spot dirt 0 cs)) :: rho, none⟩ ((fnAt P1 25).body.drop 3) = .ret (.bytes (plainF spot dirt cs)) := by
    intro rho
    conv in (fnAt P1 25).body.drop 3 => whnf
    have l0 : 4 + (encF spot dirt 0 cs).length ≤ line := by rw [encF_len]; (first | lia | omega)
    have l2 : 8 + (4 + (encF spot dirt 0 cs).length) ≤ line := by rw [encF_len]; (first | lia | omega)
    simp +decide only [getR_some, get_n, bind_ok, e_const, e_name, e_bin, e_call, es_nil, es_cons, c_bytes, b_cat, isB, isF, k_len, len_b, ss_cons, seq_ret, s_ret, retO_ok, Bool.and_true, ns_nil, ns_cons, ns_Name, ns_Call, List.length_cons, List.length_nil, List.length_append, Nat.reduceAdd, Nat.zero_add, List.nil_append, List.cons_append, sh157, u25_6, bb9, u25_17, bb27, u25_19, w, l0, l2, le4_len, wave_len]
    rfl
  cases cs with
  | nil =>
    simp +decide only [getR_some, get_n, set_n, bind_ok, e_const, c_int, c_bytes, ss_cons, seq_next, asgO_ok, ofS_some, a_name, s_for, forR_ok, i_name, itN_l, List.zip_cons_cons, List.zip_nil_right, sh23, sh162, sh163, s_asgC, u25_0, u25_1, u25_7, u25_9]
    exact congrArg outR (fin [(Str.ofString "at", .int 0)])
  | cons c r =>
    have hlen : (encs (c :: r)).length = (encC 0 c).length + (encs r).length := by simp [encs]
    rw [hlen, encC_len] at hl
    have e0 := pl_stepA k (.lst ((c :: r).map cD)) spot dirt 0 wave c (r.map cD) hd (by rw [wave_len]; (first | lia | omega))
    obtain ⟨a1, a2, a3, a4, e⟩ := pl_loop k (.lst ((c :: r).map cD)) spot dirt hd r (0 + 1) (.bytes c.1) (.bytes c.2) (.int (if 0 = spot then dirt else 0)) (wave ++ encC (byte (if 0 = spot then dirt else 0)) c) (by rw [List.length_append, encC_len, wave_len]; (first | lia | omega))
    rw [e, List.append_assoc, ← encF] at e0
    simp +decide only [getR_some, get_n, set_n, bind_ok, e_const, c_int, c_bytes, ss_cons, seq_next, asgO_ok, ofS_some, a_name, s_for, forR_ok, i_name, itN_l, List.zip_cons_cons, List.zip_nil_right, sh23, sh162, sh163, s_asgC, u25_0, u25_1, u25_7, u25_9]
    refine (congrArg (fun o => outR (seqO o _ _ _)) e0).trans ?_
    exact congrArg outR (fin _)
end
end Mine
namespace Mine
section
open PySem

theorem rd_drop (l : List UInt8) (p j : Nat) : rd (l.drop p) j = rd l (p + j) := by
  unfold rd
  rw [List.getD_eq_getElem?_getD, List.getD_eq_getElem?_getD, List.getElem?_drop]
theorem u4_drop (l : List UInt8) (p j : Nat) : u4 (l.drop p) j = u4 l (p + j) := by
  unfold u4
  rw [rd_drop, rd_drop, rd_drop, rd_drop]
  rfl
/-- the chunks of a text behind the head -/
noncomputable def pr : Nat → List UInt8 → Option (List Ch)
  | 0, _ => none
  | f + 1, r => if r.length = 0 then some [] else if r.length < 8 then none else
    if r.length < 8 + (u4 r 4).toNat + (u4 r 4).toNat % 2 then none else
    if (u4 r 4).toNat % 2 = 1 ∧ rd r (8 + (u4 r 4).toNat) ≠ 0 then none else
    (pr f (r.drop (8 + (u4 r 4).toNat + (u4 r 4).toNat % 2))).map ((r.take 4, (r.drop 8).take (u4 r 4).toNat) :: ·)

theorem rc_testA (k : Nat) (l : List UInt8) (p : Nat) (os : List D) : evT (C1 (k + 1) 5) 91 ⟨[(Str.ofString "data", .bytes l), (Str.ofString "length", .int l.length), (Str.ofString "pos", .int p)], some (Str.ofString "out", os)⟩ (whTs (stAt (fnAt P1 5) 7)) = .ok (decide ((p : Int) < l.length)) := by
  conv in (whTs (stAt (fnAt P1 5) 7)) => whnf
  unfold C1
  simp +decide only [getR_some, bind_ok, e_name, m_lt, t_cmp, ch_one, lm_one, bm_Name, sh58, sh59, sh74, sh76, u5_2, u5_6]
theorem rc_goodA (k : Nat) (l : List UInt8) (p m : Nat) (os : List D) (hl : l.length ≤ line) (ho : os.length ≤ 1000000) (h8 : p + 8 ≤ l.length) (hm : u4 l (p + 4) = m) (h0 : p + 8 + m + m % 2 ≤ l.length) (h1 : m % 2 = 1 → rd l (p + 8 + m) = 0) :
    execs (C1 (k + 1) 5) 91 ⟨[(Str.ofString "data", .bytes l), (Str.ofString "length", .int l.length), (Str.ofString "pos", .int p)], some (Str.ofString "out", os)⟩ (forBd (stAt (fnAt P1 5) 7)) = .next ⟨[(Str.ofString "data", .bytes l), (Str.ofString "length", .int l.length), (Str.ofString "pos", .int ((p : Int) + 8 + m + (m : Int) % 2)), (Str.ofString "rest", .int ((l.length : Int) - p)), (Str.ofString "size", .int m), (Str.ofString "pad", .int ((m : Int) % 2))], some (Str.ofString "out", os ++ [cD ((l.take (p + 4)).drop p, (l.take (p + 8 + m)).drop (p + 8))])⟩ := by
  conv in (forBd (stAt (fnAt P1 5) 7)) => whnf
  unfold C1 cD
  have w : Fk Q1 (k + 1) (Str.ofString "_read_uint") [.bytes l, .int ((p : Int) + 4), .int 4] = .ok (.int m) := by rw [← hm]; exact ev_ru4 k l (p + 4) (by (first | lia | omega)) hl
  have a1 : decide ((l.length : Int) - p < 8) = false := by simp; (first | lia | omega)
  have a2 : decide ((l.length : Int) - p < 8 + m + (m : Int) % 2) = false := by simp; (first | lia | omega)
  have c1 : cut l (some (p : Int)) (some ((p : Int) + 4)) = (l.take (p + 4)).drop p := cut_both l p (p + 4)
  have c2 : cut l (some ((p : Int) + 8)) (some ((p : Int) + 8 + m)) = (l.take (p + 8 + m)).drop (p + 8) := cut_both l (p + 8) (p + 8 + m)
  cases a3 : ((m : Int) % 2 == 1) with
  | true =>
    have e : m % 2 = 1 := by have := of_decide_eq_true a3; (first | lia | omega)
    have x1 : (0 : Int) ≤ (p : Int) + 8 + m ∧ (p : Int) + 8 + m < l.length ∧ l.length ≤ line := ⟨by (first | lia | omega), by (first | lia | omega), hl⟩
    have x2 : (rd l ((p : Int) + 8 + m).toNat == 0) = true := by rw [show ((p : Int) + 8 + m).toNat = p + 8 + m by (first | lia | omega), h1 e]; rfl
    simp +decide only [getR_some, bind_ok, e_const, e_name, e_bin, e_call, e_slice, e_subB, e_tup, es_nil, es_cons, o_some, part_int, c_int, b_add, b_sub, b_mod, m_lt, m_eq, m_ne, eqR_some, neR_some, q_int, isF, t_bool, ts_and, andO_t, andO_f, t_cmp, ch_one, ss_nil, ss_cons, seq_next, s_if, ifO_f, asgO_ok, ofS_some, a_name, s_app, appO_ok, String.reduceEq, decide_false, Bool.and_true, Bool.not_true, Bool.not_false, beq_self_eq_true, lm_one, ns_nil, ns_cons, ns_Name, bm_Constant, ns_Constant, bm_BinOp, ns_BinOp, ns_Tuple, List.length_cons, List.length_nil, Nat.reduceAdd, Nat.zero_add, nl_int, nl_bytes, nl_tup, nls_nil, nls_cons, x_bytes, cut_b, and_self, Int.reduceLT, sh14, sh58, sh59, sh60, sh61, sh62, sh65, sh66, sh68, sh69, sh73, sh74, sh75, sh76, sh9, sh10, sh77, sh78, sh13, sh79, s_asgB, s_asgK, u5_0, u5_2, u5_5, u5_6, u5_7, u5_8, u5_9, u5_10, u5_11, u5_12, u5_13, bb23, u5_18, hl, ho, w, a1, a2, a3, c1, c2, x1, x2]
  | false => simp +decide only [getR_some, bind_ok, e_const, e_name, e_bin, e_call, e_slice, e_tup, es_nil, es_cons, o_some, part_int, c_int, b_add, b_sub, b_mod, m_lt, m_eq, eqR_some, q_int, isF, t_bool, ts_and, andO_f, t_cmp, ch_one, ss_nil, ss_cons, seq_next, s_if, ifO_f, asgO_ok, ofS_some, a_name, s_app, appO_ok, String.reduceEq, decide_false, Bool.and_true, Bool.not_false, beq_self_eq_true, lm_one, ns_nil, ns_cons, ns_Name, bm_Constant, ns_Constant, bm_BinOp, ns_BinOp, ns_Tuple, List.length_cons, List.length_nil, Nat.reduceAdd, Nat.zero_add, nl_int, nl_bytes, nl_tup, nls_nil, nls_cons, cut_b, Int.reduceLT, sh14, sh58, sh59, sh60, sh61, sh62, sh65, sh66, sh68, sh69, sh73, sh74, sh75, sh76, sh9, sh10, sh77, sh78, sh13, sh79, s_asgB, s_asgK, u5_0, u5_2, u5_5, u5_6, u5_7, u5_8, u5_9, u5_10, u5_11, u5_12, u5_13, bb23, u5_18, hl, ho, w, a1, a2, a3, c1, c2]
theorem rc_shortA (k : Nat) (l : List UInt8) (p : Nat) (os : List D) (h8 : l.length < p + 8) : execs (C1 (k + 1) 5) 91 ⟨[(Str.ofString "data", .bytes l), (Str.ofString "length", .int l.length), (Str.ofString "pos", .int p)], some (Str.ofString "out", os)⟩ (forBd (stAt (fnAt P1 5) 7)) = .raise := by
  conv in (forBd (stAt (fnAt P1 5) 7)) => whnf
  unfold C1
  have a1 : decide ((l.length : Int) - p < 8) = true := by simp; (first | lia | omega)
  simp +decide only [getR_some, bind_ok, e_const, e_name, e_bin, c_int, c_str, b_sub, m_lt, t_cmp, ch_one, ss_cons, seq_next, seq_raise, s_if, ifO_t, asgO_ok, ofS_some, a_name, s_raise, rsO_str, Bool.and_true, lm_one, bm_Constant, ns_Constant, nl_int, sh58, sh59, sh60, sh66, sh74, sh76, sh9, sh13, s_asgB, u5_2, u5_6, u5_8, u5_9, u5_16, a1]
theorem rc_longA (k : Nat) (l : List UInt8) (p m : Nat) (os : List D) (hl : l.length ≤ line) (h8 : p + 8 ≤ l.length) (hm : u4 l (p + 4) = m) (h0 : l.length < p + 8 + m + m % 2) : execs (C1 (k + 1) 5) 91 ⟨[(Str.ofString "data", .bytes l), (Str.ofString "length", .int l.length), (Str.ofString "pos", .int p)], some (Str.ofString "out", os)⟩ (forBd (stAt (fnAt P1 5) 7)) = .raise := by
  conv in (forBd (stAt (fnAt P1 5) 7)) => whnf
  unfold C1
  have w : Fk Q1 (k + 1) (Str.ofString "_read_uint") [.bytes l, .int ((p : Int) + 4), .int 4] = .ok (.int m) := by rw [← hm]; exact ev_ru4 k l (p + 4) (by (first | lia | omega)) hl
  have a1 : decide ((l.length : Int) - p < 8) = false := by simp; (first | lia | omega)
  have a2 : decide ((l.length : Int) - p < 8 + m + (m : Int) % 2) = true := by simp; (first | lia | omega)
  simp +decide only [getR_some, bind_ok, e_const, e_name, e_bin, e_call, es_nil, es_cons, c_int, c_str, b_add, b_sub, b_mod, m_lt, isF, t_cmp, ch_one, ss_nil, ss_cons, seq_next, seq_raise, s_if, ifO_t, ifO_f, asgO_ok, ofS_some, a_name, s_raise, rsO_str, Bool.and_true, lm_one, ns_nil, ns_cons, ns_Name, bm_Constant, ns_Constant, bm_BinOp, ns_BinOp, nl_int, Int.reduceLT, sh14, sh58, sh59, sh60, sh61, sh62, sh66, sh68, sh69, sh73, sh74, sh75, sh76, sh9, sh10, sh77, sh13, sh79, s_asgB, s_asgK, u5_0, u5_2, u5_6, u5_8, u5_9, u5_10, u5_11, u5_12, u5_13, u5_16, bb23, u5_18, w, a1, a2]
theorem rc_dirtA (k : Nat) (l : List UInt8) (p m : Nat) (os : List D) (hl : l.length ≤ line) (h8 : p + 8 ≤ l.length) (hm : u4 l (p + 4) = m) (h0 : p + 8 + m + m % 2 ≤ l.length) (e : m % 2 = 1) (h1 : rd l (p + 8 + m) ≠ 0) : execs (C1 (k + 1) 5) 91 ⟨[(Str.ofString "data", .bytes l), (Str.ofString "length", .int l.length), (Str.ofString "pos", .int p)], some (Str.ofString "out", os)⟩ (forBd (stAt (fnAt P1 5) 7)) = .raise := by
  conv in (forBd (stAt (fnAt P1 5) 7)) => whnf
  unfold C1
  have w : Fk Q1 (k + 1) (Str.ofString "_read_uint") [.bytes l, .int ((p : Int) + 4), .int 4] = .ok (.int m) := by rw [← hm]; exact ev_ru4 k l (p + 4) (by (first | lia | omega)) hl
  have a1 : decide ((l.length : Int) - p < 8) = false := by simp; (first | lia | omega)
  have a2 : decide ((l.length : Int) - p < 8 + m + (m : Int) % 2) = false := by simp; (first | lia | omega)
  have a3 : ((m : Int) % 2 == 1) = true := by simp; (first | lia | omega)
  have x1 : (0 : Int) ≤ (p : Int) + 8 + m ∧ (p : Int) + 8 + m < l.length ∧ l.length ≤ line := ⟨by (first | lia | omega), by (first | lia | omega), hl⟩
  have x2 : (rd l ((p : Int) + 8 + m).toNat == 0) = false := by rw [show ((p : Int) + 8 + m).toNat = p + 8 + m by (first | lia | omega)]; simpa using h1
  simp +decide only [getR_some, bind_ok, e_const, e_name, e_bin, e_call, e_subB, es_nil, es_cons, c_int, c_str, b_add, b_sub, b_mod, m_lt, m_eq, m_ne, eqR_some, neR_some, q_int, isF, t_bool, ts_andN, ts_and, andO_t, t_cmp, ch_one, ss_nil, ss_cons, seq_next, seq_raise, s_if, ifO_t, ifO_f, asgO_ok, ofS_some, a_name, s_raise, rsO_str, Bool.and_true, Bool.not_false, lm_one, ns_nil, ns_cons, ns_Name, bm_Constant, ns_Constant, bm_BinOp, ns_BinOp, nl_int, x_bytes, and_self, Int.reduceLT, sh14, sh58, sh59, sh60, sh61, sh62, sh66, sh68, sh69, sh73, sh74, sh75, sh76, sh9, sh10, sh77, sh13, sh79, s_asgB, s_asgK, u5_0, u5_2, u5_6, u5_8, u5_9, u5_10, u5_11, u5_12, u5_13, u5_16, bb23, u5_18, hl, w, a1, a2, a3, x1, x2]

theorem rc_turnA (k : Nat) (l : List UInt8) (p f : Nat) (os : List D) (hl : l.length ≤ line) (ho : os.length ≤ 1000000) :
    (l.length ≤ p → whO (C1 (k + 1) 5) 91 (whTs (stAt (fnAt P1 5) 7)) (forBd (stAt (fnAt P1 5) 7)) (f + 1) ⟨[(Str.ofString "data", .bytes l), (Str.ofString "length", .int l.length), (Str.ofString "pos", .int p)], some (Str.ofString "out", os)⟩ = .next ⟨[(Str.ofString "data", .bytes l), (Str.ofString "length", .int l.length), (Str.ofString "pos", .int p)], some (Str.ofString "out", os)⟩) ∧
    (p < l.length → ((pr (f + 1) (l.drop p) = none ∧ whO (C1 (k + 1) 5) 91 (whTs (stAt (fnAt P1 5) 7)) (forBd (stAt (fnAt P1 5) 7)) (f + 1) ⟨[(Str.ofString "data", .bytes l), (Str.ofString "length", .int l.length), (Str.ofString "pos", .int p)], some (Str.ofString "out", os)⟩ = .raise) ∨
      ∃ m c rs1 sz1 pd1, p + 8 + m ≤ l.length ∧ pr (f + 1) (l.drop p) = (pr f (l.drop (p + 8 + m))).map (c :: ·) ∧ whO (C1 (k + 1) 5) 91 (whTs (stAt (fnAt P1 5) 7)) (forBd (stAt (fnAt P1 5) 7)) (f + 1) ⟨[(Str.ofString "data", .bytes l), (Str.ofString "length", .int l.length), (Str.ofString "pos", .int p)], some (Str.ofString "out", os)⟩ = whO (C1 (k + 1) 5) 91 (whTs (stAt (fnAt P1 5) 7)) (forBd (stAt (fnAt P1 5) 7)) f ⟨[(Str.ofString "data", .bytes l), (Str.ofString "length", .int l.length), (Str.ofString "pos", .int ((p + 8 + m : Nat) : Int)), (Str.ofString "rest", rs1), (Str.ofString "size", sz1), (Str.ofString "pad", pd1)], some (Str.ofString "out", os ++ [cD c])⟩)) := by
  constructor
  · intro h
    rw [wh_step, rc_testA, decide_eq_false (by (first | lia | omega)), whT_f]
  · intro h
    rw [wh_step, rc_testA, decide_eq_true (by (first | lia | omega)), whT_t]
    have hlen : (l.drop p).length = l.length - p := List.length_drop
    have hu := u4_in l (p + 4)
    have hm : u4 l (p + 4) = ((u4 l (p + 4)).toNat : Int) := by (first | lia | omega)
    have hp : pr (f + 1) (l.drop p) = if (l.drop p).length = 0 then some [] else if (l.drop p).length < 8 then none else
        if (l.drop p).length < 8 + (u4 (l.drop p) 4).toNat + (u4 (l.drop p) 4).toNat % 2 then none else
        if (u4 (l.drop p) 4).toNat % 2 = 1 ∧ rd (l.drop p) (8 + (u4 (l.drop p) 4).toNat) ≠ 0 then none else
        (pr f ((l.drop p).drop (8 + (u4 (l.drop p) 4).toNat + (u4 (l.drop p) 4).toNat % 2))).map (((l.drop p).take 4, ((l.drop p).drop 8).take (u4 (l.drop p) 4).toNat) :: ·) := rfl
    rw [u4_drop, rd_drop, hlen, if_neg (by (first | lia | omega))] at hp
    generalize (u4 l (p + 4)).toNat = m at hm hp
    by_cases h8 : l.length < p + 8
    · left
      rw [if_pos (by (first | lia | omega))] at hp
      exact ⟨hp, by rw [rc_shortA k l p os h8, whB_raise]⟩
    · rw [if_neg (by (first | lia | omega))] at hp
      by_cases h0 : l.length < p + 8 + m + m % 2
      · left
        rw [if_pos (by (first | lia | omega))] at hp
        exact ⟨hp, by rw [rc_longA k l p m os hl (by (first | lia | omega)) hm h0, whB_raise]⟩
      · rw [if_neg (by (first | lia | omega))] at hp
        by_cases hd : m % 2 = 1 ∧ rd l (p + (8 + m)) ≠ 0
        · left
          rw [if_pos hd] at hp
          exact ⟨hp, by rw [rc_dirtA k l p m os hl (by (first | lia | omega)) hm (by (first | lia | omega)) hd.1 (by rw [Nat.add_assoc]; exact hd.2), whB_raise]⟩
        · right
          rw [if_neg hd] at hp
          refine ⟨m + m % 2, ((l.drop p).take 4, ((l.drop p).drop 8).take m), .int ((l.length : Int) - p), .int m, .int ((m : Int) % 2), by (first | lia | omega), ?_, ?_⟩
          · rw [hp, show (l.drop p).drop (8 + m + m % 2) = l.drop (p + 8 + (m + m % 2)) by rw [List.drop_drop]; congr 1; (first | lia | omega)]
          · rw [rc_goodA k l p m os hl ho (by (first | lia | omega)) hm (by (first | lia | omega)) (fun e => by
              rw [Nat.add_assoc]
              exact Decidable.byContradiction fun q => hd ⟨e, q⟩), whB_next]
            have e1 : (p : Int) + 8 + m + (m : Int) % 2 = ((p + 8 + (m + m % 2) : Nat) : Int) := by (first | lia | omega)
            have e2 : (l.take (p + 4)).drop p = (l.drop p).take 4 := by rw [List.drop_take, Nat.add_sub_cancel_left]
            have e3 : (l.take (p + 8 + m)).drop (p + 8) = ((l.drop p).drop 8).take m := by rw [List.drop_take, Nat.add_sub_cancel_left, List.drop_drop]
            rw [e1, e2, e3]

theorem rc_testB (k : Nat) (l : List UInt8) (p : Nat) (rs0 sz0 pd0 : D) (os : List D) : evT (C1 (k + 1) 5) 91 ⟨[(Str.ofString "data", .bytes l), (Str.ofString "length", .int l.length), (Str.ofString "pos", .int p), (Str.ofString "rest", rs0), (Str.ofString "size", sz0), (Str.ofString "pad", pd0)], some (Str.ofString "out", os)⟩ (whTs (stAt (fnAt P1 5) 7)) = .ok (decide ((p : Int) < l.length)) := by
  conv in (whTs (stAt (fnAt P1 5) 7)) => whnf
  unfold C1
  simp +decide only [getR_some, bind_ok, e_name, m_lt, t_cmp, ch_one, lm_one, bm_Name, sh58, sh59, sh74, sh76, u5_2, u5_6]
theorem rc_goodB (k : Nat) (l : List UInt8) (p m : Nat) (rs0 sz0 pd0 : D) (os : List D) (hl : l.length ≤ line) (ho : os.length ≤ 1000000) (h8 : p + 8 ≤ l.length) (hm : u4 l (p + 4) = m) (h0 : p + 8 + m + m % 2 ≤ l.length) (h1 : m % 2 = 1 → rd l (p + 8 + m) = 0) :
    execs (C1 (k + 1) 5) 91 ⟨[(Str.ofString "data", .bytes l), (Str.ofString "length", .int l.length), (Str.ofString "pos", .int p), (Str.ofString "rest", rs0), (Str.ofString "size", sz0), (Str.ofString "pad", pd0)], some (Str.ofString "out", os)⟩ (forBd (stAt (fnAt P1 5) 7)) = .next ⟨[(Str.ofString "data", .bytes l), (Str.ofString "length", .int l.length), (Str.ofString "pos", .int ((p : Int) + 8 + m + (m : Int) % 2)), (Str.ofString "rest", .int ((l.length : Int) - p)), (Str.ofString "size", .int m), (Str.ofString "pad", .int ((m : Int) % 2))], some (Str.ofString "out", os ++ [cD ((l.take (p + 4)).drop p, (l.take (p + 8 + m)).drop (p + 8))])⟩ := by
  conv in (forBd (stAt (fnAt P1 5) 7)) => whnf
  unfold C1 cD
  have w : Fk Q1 (k + 1) (Str.ofString "_read_uint") [.bytes l, .int ((p : Int) + 4), .int 4] = .ok (.int m) := by rw [← hm]; exact ev_ru4 k l (p + 4) (by (first | lia | omega)) hl
  have a1 : decide ((l.length : Int) - p < 8) = false := by simp; (first | lia | omega)
  have a2 : decide ((l.length : Int) - p < 8 + m + (m : Int) % 2) = false := by simp; (first | lia | omega)
  have c1 : cut l (some (p : Int)) (some ((p : Int) + 4)) = (l.take (p + 4)).drop p := cut_both l p (p + 4)
  have c2 : cut l (some ((p : Int) + 8)) (some ((p : Int) + 8 + m)) = (l.take (p + 8 + m)).drop (p + 8) := cut_both l (p + 8) (p + 8 + m)
  cases a3 : ((m : Int) % 2 == 1) with
  | true =>
    have e : m % 2 = 1 := by have := of_decide_eq_true a3; (first | lia | omega)
    have x1 : (0 : Int) ≤ (p : Int) + 8 + m ∧ (p : Int) + 8 + m < l.length ∧ l.length ≤ line := ⟨by (first | lia | omega), by (first | lia | omega), hl⟩
    have x2 : (rd l ((p : Int) + 8 + m).toNat == 0) = true := by rw [show ((p : Int) + 8 + m).toNat = p + 8 + m by (first | lia | omega), h1 e]; rfl
    simp +decide only [getR_some, bind_ok, e_const, e_name, e_bin, e_call, e_slice, e_subB, e_tup, es_nil, es_cons, o_some, part_int, c_int, b_add, b_sub, b_mod, m_lt, m_eq, m_ne, eqR_some, neR_some, q_int, isF, t_bool, ts_and, andO_t, andO_f, t_cmp, ch_one, ss_nil, ss_cons, seq_next, s_if, ifO_f, asgO_ok, ofS_some, a_name, s_app, appO_ok, String.reduceEq, decide_false, Bool.and_true, Bool.not_true, Bool.not_false, beq_self_eq_true, lm_one, ns_nil, ns_cons, ns_Name, bm_Constant, ns_Constant, bm_BinOp, ns_BinOp, ns_Tuple, List.length_cons, List.length_nil, Nat.reduceAdd, Nat.zero_add, nl_int, nl_bytes, nl_tup, nls_nil, nls_cons, x_bytes, cut_b, and_self, Int.reduceLT, sh14, sh58, sh59, sh60, sh61, sh62, sh65, sh67, sh70, sh71, sh73, sh74, sh75, sh76, sh9, sh10, sh77, sh78, sh13, sh79, s_asgB, s_asgK, u5_0, u5_2, u5_5, u5_6, u5_7, u5_8, u5_9, u5_10, u5_11, u5_12, u5_13, bb23, u5_18, hl, ho, w, a1, a2, a3, c1, c2, x1, x2]
  | false => simp +decide only [getR_some, bind_ok, e_const, e_name, e_bin, e_call, e_slice, e_tup, es_nil, es_cons, o_some, part_int, c_int, b_add, b_sub, b_mod, m_lt, m_eq, eqR_some, q_int, isF, t_bool, ts_and, andO_f, t_cmp, ch_one, ss_nil, ss_cons, seq_next, s_if, ifO_f, asgO_ok, ofS_some, a_name, s_app, appO_ok, String.reduceEq, decide_false, Bool.and_true, Bool.not_false, beq_self_eq_true, lm_one, ns_nil, ns_cons, ns_Name, bm_Constant, ns_Constant, bm_BinOp, ns_BinOp, ns_Tuple, List.length_cons, List.length_nil, Nat.reduceAdd, Nat.zero_add, nl_int, nl_bytes, nl_tup, nls_nil, nls_cons, cut_b, Int.reduceLT, sh14, sh58, sh59, sh60, sh61, sh62, sh65, sh67, sh70, sh71, sh73, sh74, sh75, sh76, sh9, sh10, sh77, sh78, sh13, sh79, s_asgB, s_asgK, u5_0, u5_2, u5_5, u5_6, u5_7, u5_8, u5_9, u5_10, u5_11, u5_12, u5_13, bb23, u5_18, hl, ho, w, a1, a2, a3, c1, c2]
theorem rc_shortB (k : Nat) (l : List UInt8) (p : Nat) (rs0 sz0 pd0 : D) (os : List D) (h8 : l.length < p + 8) : execs (C1 (k + 1) 5) 91 ⟨[(Str.ofString "data", .bytes l), (Str.ofString "length", .int l.length), (Str.ofString "pos", .int p), (Str.ofString "rest", rs0), (Str.ofString "size", sz0), (Str.ofString "pad", pd0)], some (Str.ofString "out", os)⟩ (forBd (stAt (fnAt P1 5) 7)) = .raise := by
  conv in (forBd (stAt (fnAt P1 5) 7)) => whnf
  unfold C1
  have a1 : decide ((l.length : Int) - p < 8) = true := by simp; (first | lia | omega)
  simp +decide only [getR_some, bind_ok, e_const, e_name, e_bin, c_int, c_str, b_sub, m_lt, t_cmp, ch_one, ss_cons, seq_next, seq_raise, s_if, ifO_t, asgO_ok, ofS_some, a_name, s_raise, rsO_str, Bool.and_true, lm_one, bm_Constant, ns_Constant, nl_int, sh58, sh59, sh60, sh67, sh74, sh76, sh9, sh13, s_asgB, u5_2, u5_6, u5_8, u5_9, u5_16, a1]
theorem rc_longB (k : Nat) (l : List UInt8) (p m : Nat) (rs0 sz0 pd0 : D) (os : List D) (hl : l.length ≤ line) (h8 : p + 8 ≤ l.length) (hm : u4 l (p + 4) = m) (h0 : l.length < p + 8 + m + m % 2) : execs (C1 (k + 1) 5) 91 ⟨[(Str.ofString "data", .bytes l), (Str.ofString "length", .int l.length), (Str.ofString "pos", .int p), (Str.ofString "rest", rs0), (Str.ofString "size", sz0), (Str.ofString "pad", pd0)], some (Str.ofString "out", os)⟩ (forBd (stAt (fnAt P1 5) 7)) = .raise := by
  conv in (forBd (stAt (fnAt P1 5) 7)) => whnf
  unfold C1
  have w : Fk Q1 (k + 1) (Str.ofString "_read_uint") [.bytes l, .int ((p : Int) + 4), .int 4] = .ok (.int m) := by rw [← hm]; exact ev_ru4 k l (p + 4) (by (first | lia | omega)) hl
  have a1 : decide ((l.length : Int) - p < 8) = false := by simp; (first | lia | omega)
  have a2 : decide ((l.length : Int) - p < 8 + m + (m : Int) % 2) = true := by simp; (first | lia | omega)
  simp +decide only [getR_some, bind_ok, e_const, e_name, e_bin, e_call, es_nil, es_cons, c_int, c_str, b_add, b_sub, b_mod, m_lt, isF, t_cmp, ch_one, ss_nil, ss_cons, seq_next, seq_raise, s_if, ifO_t, ifO_f, asgO_ok, ofS_some, a_name, s_raise, rsO_str, Bool.and_true, lm_one, ns_nil, ns_cons, ns_Name, bm_Constant, ns_Constant, bm_BinOp, ns_BinOp, nl_int, Int.reduceLT, sh14, sh58, sh59, sh60, sh61, sh62, sh67, sh70, sh71, sh73, sh74, sh75, sh76, sh9, sh10, sh77, sh13, sh79, s_asgB, s_asgK, u5_0, u5_2, u5_6, u5_8, u5_9, u5_10, u5_11, u5_12, u5_13, u5_16, bb23, u5_18, w, a1, a2]
theorem rc_dirtB (k : Nat) (l : List UInt8) (p m : Nat) (rs0 sz0 pd0 : D) (os : List D) (hl : l.length ≤ line) (h8 : p + 8 ≤ l.length) (hm : u4 l (p + 4) = m) (h0 : p + 8 + m + m % 2 ≤ l.length) (e : m % 2 = 1) (h1 : rd l (p + 8 + m) ≠ 0) : execs (C1 (k + 1) 5) 91 ⟨[(Str.ofString "data", .bytes l), (Str.ofString "length", .int l.length), (Str.ofString "pos", .int p), (Str.ofString "rest", rs0), (Str.ofString "size", sz0), (Str.ofString "pad", pd0)], some (Str.ofString "out", os)⟩ (forBd (stAt (fnAt P1 5) 7)) = .raise := by
  conv in (forBd (stAt (fnAt P1 5) 7)) => whnf
  unfold C1
  have w : Fk Q1 (k + 1) (Str.ofString "_read_uint") [.bytes l, .int ((p : Int) + 4), .int 4] = .ok (.int m) := by rw [← hm]; exact ev_ru4 k l (p + 4) (by (first | lia | omega)) hl
  have a1 : decide ((l.length : Int) - p < 8) = false := by simp; (first | lia | omega)
  have a2 : decide ((l.length : Int) - p < 8 + m + (m : Int) % 2) = false := by simp; (first | lia | omega)
  have a3 : ((m : Int) % 2 == 1) = true := by simp; (first | lia | omega)
  have x1 : (0 : Int) ≤ (p : Int) + 8 + m ∧ (p : Int) + 8 + m < l.length ∧ l.length ≤ line := ⟨by (first | lia | omega), by (first | lia | omega), hl⟩
  have x2 : (rd l ((p : Int) + 8 + m).toNat == 0) = false := by rw [show ((p : Int) + 8 + m).toNat = p + 8 + m by (first | lia | omega)]; simpa using h1
  simp +decide only [getR_some, bind_ok, e_const, e_name, e_bin, e_call, e_subB, es_nil, es_cons, c_int, c_str, b_add, b_sub, b_mod, m_lt, m_eq, m_ne, eqR_some, neR_some, q_int, isF, t_bool, ts_andN, ts_and, andO_t, t_cmp, ch_one, ss_nil, ss_cons, seq_next, seq_raise, s_if, ifO_t, ifO_f, asgO_ok, ofS_some, a_name, s_raise, rsO_str, Bool.and_true, Bool.not_false, lm_one, ns_nil, ns_cons, ns_Name, bm_Constant, ns_Constant, bm_BinOp, ns_BinOp, nl_int, x_bytes, and_self, Int.reduceLT, sh14, sh58, sh59, sh60, sh61, sh62, sh67, sh70, sh71, sh73, sh74, sh75, sh76, sh9, sh10, sh77, sh13, sh79, s_asgB, s_asgK, u5_0, u5_2, u5_6, u5_8, u5_9, u5_10, u5_11, u5_12, u5_13, u5_16, bb23, u5_18, hl, w, a1, a2, a3, x1, x2]

theorem rc_turnB (k : Nat) (l : List UInt8) (p f : Nat) (rs0 sz0 pd0 : D) (os : List D) (hl : l.length ≤ line) (ho : os.length ≤ 1000000) :
    (l.length ≤ p → whO (C1 (k + 1) 5) 91 (whTs (stAt (fnAt P1 5) 7)) (forBd (stAt (fnAt P1 5) 7)) (f + 1) ⟨[(Str.ofString "data", .bytes l), (Str.ofString "length", .int l.length), (Str.ofString "pos", .int p), (Str.ofString "rest", rs0), (Str.ofString "size", sz0), (Str.ofString "pad", pd0)], some (Str.ofString "out", os)⟩ = .next ⟨[(Str.ofString "data", .bytes l), (Str.ofString "length", .int l.length), (Str.ofString "pos", .int p), (Str.ofString "rest", rs0), (Str.ofString "size", sz0), (Str.ofString "pad", pd0)], some (Str.ofString "out", os)⟩) ∧
    (p < l.length → ((pr (f + 1) (l.drop p) = none ∧ whO (C1 (k + 1) 5) 91 (whTs (stAt (fnAt P1 5) 7)) (forBd (stAt (fnAt P1 5) 7)) (f + 1) ⟨[(Str.ofString "data", .bytes l), (Str.ofString "length", .int l.length), (Str.ofString "pos", .int p), (Str.ofString "rest", rs0), (Str.ofString "size", sz0), (Str.ofString "pad", pd0)], some (Str.ofString "out", os)⟩ = .raise) ∨
      ∃ m c rs1 sz1 pd1, p + 8 + m ≤ l.length ∧ pr (f + 1) (l.drop p) = (pr f (l.drop (p + 8 + m))).map (c :: ·) ∧ whO (C1 (k + 1) 5) 91 (whTs (stAt (fnAt P1 5) 7)) (forBd (stAt (fnAt P1 5) 7)) (f + 1) ⟨[(Str.ofString "data", .bytes l), (Str.ofString "length", .int l.length), (Str.ofString "pos", .int p), (Str.ofString "rest", rs0), (Str.ofString "size", sz0), (Str.ofString "pad", pd0)], some (Str.ofString "out", os)⟩ = whO (C1 (k + 1) 5) 91 (whTs (stAt (fnAt P1 5) 7)) (forBd (stAt (fnAt P1 5) 7)) f ⟨[(Str.ofString "data", .bytes l), (Str.ofString "length", .int l.length), (Str.ofString "pos", .int ((p + 8 + m : Nat) : Int)), (Str.ofString "rest", rs1), (Str.ofString "size", sz1), (Str.ofString "pad", pd1)], some (Str.ofString "out", os ++ [cD c])⟩)) := by
  constructor
  · intro h
    rw [wh_step, rc_testB, decide_eq_false (by (first | lia | omega)), whT_f]
  · intro h
    rw [wh_step, rc_testB, decide_eq_true (by (first | lia | omega)), whT_t]
    have hlen : (l.drop p).length = l.length - p := List.length_drop
    have hu := u4_in l (p + 4)
    have hm : u4 l (p + 4) = ((u4 l (p + 4)).toNat : Int) := by (first | lia | omega)
    have hp : pr (f + 1) (l.drop p) = if (l.drop p).length = 0 then some [] else if (l.drop p).length < 8 then none else
        if (l.drop p).length < 8 + (u4 (l.drop p) 4).toNat + (u4 (l.drop p) 4).toNat % 2 then none else
        if (u4 (l.drop p) 4).toNat % 2 = 1 ∧ rd (l.drop p) (8 + (u4 (l.drop p) 4).toNat) ≠ 0 then none else
        (pr f ((l.drop p).drop (8 + (u4 (l.drop p) 4).toNat + (u4 (l.drop p) 4).toNat % 2))).map (((l.drop p).take 4, ((l.drop p).drop 8).take (u4 (l.drop p) 4).toNat) :: ·) := rfl
    rw [u4_drop, rd_drop, hlen, if_neg (by (first | lia | omega))] at hp
    generalize (u4 l (p + 4)).toNat = m at hm hp
    by_cases h8 : l.length < p + 8
    · left
      rw [if_pos (by (first | lia | omega))] at hp
      exact ⟨hp, by rw [rc_shortB k l p rs0 sz0 pd0 os h8, whB_raise]⟩
    · rw [if_neg (by (first | lia | omega))] at hp
      by_cases h0 : l.length < p + 8 + m + m % 2
      · left
        rw [if_pos (by (first | lia | omega))] at hp
        exact ⟨hp, by rw [rc_longB k l p m rs0 sz0 pd0 os hl (by (first | lia | omega)) hm h0, whB_raise]⟩
      · rw [if_neg (by (first | lia | omega))] at hp
        by_cases hd : m % 2 = 1 ∧ rd l (p + (8 + m)) ≠ 0
        · left
          rw [if_pos hd] at hp
          exact ⟨hp, by rw [rc_dirtB k l p m rs0 sz0 pd0 os hl (by (first | lia | omega)) hm (by (first | lia | omega)) hd.1 (by rw [Nat.add_assoc]; exact hd.2), whB_raise]⟩
        · right
          rw [if_neg hd] at hp
          refine ⟨m + m % 2, ((l.drop p).take 4, ((l.drop p).drop 8).take m), .int ((l.length : Int) - p), .int m, .int ((m : Int) % 2), by (first | lia | omega), ?_, ?_⟩
          · rw [hp, show (l.drop p).drop (8 + m + m % 2) = l.drop (p + 8 + (m + m % 2)) by rw [List.drop_drop]; congr 1; (first | lia | omega)]
          · rw [rc_goodB k l p m rs0 sz0 pd0 os hl ho (by (first | lia | omega)) hm (by (first | lia | omega)) (fun e => by
              rw [Nat.add_assoc]
              exact Decidable.byContradiction fun q => hd ⟨e, q⟩), whB_next]
            have e1 : (p : Int) + 8 + m + (m : Int) % 2 = ((p + 8 + (m + m % 2) : Nat) : Int) := by (first | lia | omega)
            have e2 : (l.take (p + 4)).drop p = (l.drop p).take 4 := by rw [List.drop_take, Nat.add_sub_cancel_left]
            have e3 : (l.take (p + 8 + m)).drop (p + 8) = ((l.drop p).drop 8).take m := by rw [List.drop_take, Nat.add_sub_cancel_left, List.drop_drop]
            rw [e1, e2, e3]

theorem rc_loop (k : Nat) (l : List UInt8) (hl : l.length ≤ 100000) : ∀ (f p : Nat) (rs0 sz0 pd0 : D) (os : List D), p ≤ l.length → l.length < p + f → os.length ≤ p →
    (pr f (l.drop p) = none ∧ whO (C1 (k + 1) 5) 91 (whTs (stAt (fnAt P1 5) 7)) (forBd (stAt (fnAt P1 5) 7)) f ⟨[(Str.ofString "data", .bytes l), (Str.ofString "length", .int l.length), (Str.ofString "pos", .int p), (Str.ofString "rest", rs0), (Str.ofString "size", sz0), (Str.ofString "pad", pd0)], some (Str.ofString "out", os)⟩ = .raise) ∨ ∃ cs rho1, pr f (l.drop p) = some cs ∧ whO (C1 (k + 1) 5) 91 (whTs (stAt (fnAt P1 5) 7)) (forBd (stAt (fnAt P1 5) 7)) f ⟨[(Str.ofString "data", .bytes l), (Str.ofString "length", .int l.length), (Str.ofString "pos", .int p), (Str.ofString "rest", rs0), (Str.ofString "size", sz0), (Str.ofString "pad", pd0)], some (Str.ofString "out", os)⟩ = .next ⟨rho1, some (Str.ofString "out", os ++ cs.map cD)⟩
  | 0, p, rs0, sz0, pd0, os, h1, h2, _ => by (first | lia | omega)
  | f + 1, p, rs0, sz0, pd0, os, h1, h2, h3 => by
    obtain ⟨t1, t2⟩ := rc_turnB k l p f rs0 sz0 pd0 os (by unfold line; (first | lia | omega)) (by (first | lia | omega))
    by_cases hp : p < l.length
    · rcases t2 hp with t | ⟨m, c, rs1, sz1, pd1, b1, b2, b3⟩
      · exact .inl t
      · rw [b2, b3]
        rcases rc_loop k l hl f (p + 8 + m) rs1 sz1 pd1 (os ++ [cD c]) b1 (by (first | lia | omega)) (by rw [List.length_append]; show os.length + 1 ≤ _; (first | lia | omega)) with ⟨i1, i2⟩ | ⟨cs, rho1, i1, i2⟩
        · exact .inl ⟨by rw [i1]; rfl, i2⟩
        · refine .inr ⟨c :: cs, rho1, by rw [i1]; rfl, ?_⟩
          rw [i2, List.append_assoc]
          rfl
    · refine .inr ⟨[], _, ?_, by rw [List.map_nil, List.append_nil]; exact t1 (by (first | lia | omega))⟩
      unfold pr
      rw [if_pos (by rw [List.length_drop]; (first | lia | omega))]
structure RIFF (l : List UInt8) : Prop where
  len : 12 ≤ l.length
  riff : l.take 4 = riff
  wave : (l.take 12).drop 8 = wave
  size : u4 l 4 = (l.length : Int) - 8
theorem ev_rc_head (k : Nat) (l : List UInt8) (hl : l.length ≤ 100000) (h : ¬ RIFF l) : Fk Q1 (k + 2) (Str.ofString "read_chunks") [.bytes l] = .raise := by
  rw [Fk_at (fnAt P1 5) (by rw [nat_Q1]; rfl) fnd1_5 ⟨rfl, by simp⟩]
  rw [show (fnAt P1 5).xs = [Str.ofString "data"] from rfl]
  rw [show Q1.fns = fns1 from rfl, show Q1.G = G1 from rfl, show Q1.B = B1 from rfl]
  conv in (fnAt P1 5).body => whnf
  have hll : l.length ≤ line := by unfold line; (first | lia | omega)
  have c1 : cut l (some 0) (some 4) = (l.take 4).drop 0 := cut_both l 0 4
  have c2 : cut l (some 8) (some 12) = (l.take 12).drop 8 := cut_both l 8 12
  rw [List.drop_zero] at c1
  cases a1 : decide ((l.length : Int) < 12) with
  | true => simp +decide only [getR_some, get_n, set_n, bind_ok, e_const, e_name, e_call, es_nil, es_cons, c_int, c_str, m_lt, isB, k_len, len_b, t_cmp, ch_one, ss_cons, seq_next, seq_raise, s_if, ifO_t, asgO_ok, ofS_some, a_name, s_raise, rsO_str, Bool.and_true, lm_one, ns_nil, ns_cons, ns_Name, bm_Constant, ns_Constant, outR_raise, List.zip_cons_cons, List.zip_nil_right, sh14, sh58, sh63, s_asgK, u5_0, u5_2, u5_3, bb27, u5_15, u5_16, hll, a1]
  | false =>
  have q1 : 12 ≤ l.length := by have := of_decide_eq_false a1; (first | lia | omega)
  have w : Fk Q1 (k + 1) (Str.ofString "_read_uint") [.bytes l, .int 4, .int 4] = .ok (.int (u4 l 4)) := ev_ru4 k l 4 (by (first | lia | omega)) hll
  cases a2 : (l.take 4 == [82, 73, 70, 70]) with
  | false => simp +decide only [getR_some, get_n, set_n, bind_ok, e_const, e_name, e_call, e_slice, es_nil, es_cons, o_some, part_int, c_int, c_str, c_bytes, m_lt, m_ne, neR_some, q_bytes, isB, k_len, len_b, t_cmp, ch_one, ss_nil, ss_cons, seq_next, seq_raise, s_if, ifO_t, ifO_f, asgO_ok, ofS_some, a_name, s_raise, rsO_str, Bool.and_true, Bool.not_false, lm_one, ns_nil, ns_cons, ns_Name, bm_Constant, ns_Constant, cut_b, outR_raise, List.zip_cons_cons, List.zip_nil_right, sh14, sh58, sh63, s_asgK, u5_0, u5_2, u5_3, bb27, u5_15, u5_16, hll, a1, c1, a2]
  | true =>
  cases a3 : ((l.take 12).drop 8 == [87, 65, 86, 69]) with
  | false => simp +decide only [getR_some, get_n, set_n, bind_ok, e_const, e_name, e_call, e_slice, es_nil, es_cons, o_some, part_int, c_int, c_str, c_bytes, m_lt, m_ne, neR_some, q_bytes, isB, k_len, len_b, t_cmp, ch_one, ss_nil, ss_cons, seq_next, seq_raise, s_if, ifO_t, ifO_f, asgO_ok, ofS_some, a_name, s_raise, rsO_str, Bool.and_true, Bool.not_true, Bool.not_false, lm_one, ns_nil, ns_cons, ns_Name, bm_Constant, ns_Constant, cut_b, outR_raise, List.zip_cons_cons, List.zip_nil_right, sh14, sh58, sh63, s_asgK, u5_0, u5_2, u5_3, bb27, u5_15, u5_16, hll, a1, c1, c2, a2, a3]
  | true =>
  cases a4 : (u4 l 4 == (l.length : Int) - 8) with
  | false => simp +decide only [getR_some, get_n, set_n, bind_ok, e_const, e_name, e_bin, e_call, e_slice, es_nil, es_cons, o_some, part_int, c_int, c_str, c_bytes, b_sub, m_lt, m_ne, neR_some, q_int, q_bytes, isB, isF, k_len, len_b, t_cmp, ch_one, ss_nil, ss_cons, seq_next, seq_raise, s_if, ifO_t, ifO_f, asgO_ok, ofS_some, a_name, s_raise, rsO_str, Bool.and_true, Bool.not_true, Bool.not_false, lm_one, ns_nil, ns_cons, ns_Name, bm_Constant, ns_Constant, bm_BinOp, cut_b, outR_raise, List.zip_cons_cons, List.zip_nil_right, sh14, sh58, sh63, s_asgK, u5_0, u5_2, u5_3, bb27, u5_15, u5_16, bb23, u5_18, hll, a1, c1, c2, a2, a3, a4, w]
  | true => exact absurd ⟨q1, eq_of_beq a2, eq_of_beq a3, eq_of_beq a4⟩ h
theorem ev_rc_go (k : Nat) (l : List UInt8) (hl : l.length ≤ 450) (h : RIFF l) :
    Fk Q1 (k + 2) (Str.ofString "read_chunks") [.bytes l] = outR (seqO (whO (C1 (k + 1) 5) 91 (whTs (stAt (fnAt P1 5) 7)) (forBd (stAt (fnAt P1 5) 7)) 500 ⟨[(Str.ofString "data", .bytes l), (Str.ofString "length", .int l.length), (Str.ofString "pos", .int 12)], some (Str.ofString "out", [])⟩) (C1 (k + 1) 5) 92 ((fnAt P1 5).body.drop 8)) := by
  rw [Fk_at (fnAt P1 5) (by rw [nat_Q1]; rfl) fnd1_5 ⟨rfl, by simp⟩]
  rw [show (fnAt P1 5).xs = [Str.ofString "data"] from rfl]
  rw [show Q1.fns = fns1 from rfl, show Q1.G = G1 from rfl, show Q1.B = B1 from rfl]
  conv in (fnAt P1 5).body => whnf
  have hll : l.length ≤ line := by unfold line; (first | lia | omega)
  have c1 : cut l (some 0) (some 4) = (l.take 4).drop 0 := cut_both l 0 4
  have c2 : cut l (some 8) (some 12) = (l.take 12).drop 8 := cut_both l 8 12
  rw [List.drop_zero] at c1
  have h12 := h.len
  have a1 : decide ((l.length : Int) < 12) = false := by simp; (first | lia | omega)
  have w : Fk Q1 (k + 1) (Str.ofString "_read_uint") [.bytes l, .int 4, .int 4] = .ok (.int (u4 l 4)) := ev_ru4 k l 4 (by (first | lia | omega)) hll
  have a2 : (l.take 4 == [82, 73, 70, 70]) = true := by rw [h.riff]; rfl
  have a3 : ((l.take 12).drop 8 == [87, 65, 86, 69]) = true := by rw [h.wave]; rfl
  have a4 : (u4 l 4 == (l.length : Int) - 8) = true := by rw [h.size]; exact beq_self_eq_true _
  generalize hr : outR (seqO (whO (C1 (k + 1) 5) 91 (whTs (stAt (fnAt P1 5) 7)) (forBd (stAt (fnAt P1 5) 7)) 500 ⟨[(Str.ofString "data", .bytes l), (Str.ofString "length", .int l.length), (Str.ofString "pos", .int 12)], some (Str.ofString "out", [])⟩) (C1 (k + 1) 5) 92 ((fnAt P1 5).body.drop 8)) = rr
  simp +decide only [getR_some, get_n, set_n, bind_ok, e_const, e_name, e_bin, e_call, e_slice, es_nil, es_cons, o_some, part_int, c_int, c_bytes, b_sub, m_lt, m_ne, neR_some, q_int, q_bytes, isB, isF, k_len, len_b, t_cmp, ch_one, ss_nil, ss_cons, seq_next, s_if, ifO_f, asgO_ok, ofS_some, a_name, s_own, ownO_ok, s_while, Bool.and_true, Bool.not_true, lm_one, ns_nil, ns_cons, ns_Name, bm_Constant, ns_Constant, bm_BinOp, List.length_nil, nl_int, nls_nil, cut_b, and_self, List.zip_cons_cons, List.zip_nil_right, sh14, sh58, sh63, sh64, sh72, sh78, s_asgC, s_asgK, u5_0, u5_2, u5_3, u5_5, u5_7, bb27, u5_15, bb23, u5_18, hll, a1, c1, c2, a2, a3, a4, w]
  exact hr
theorem ev_rc (k : Nat) (l : List UInt8) (hl : l.length ≤ 450) (h : RIFF l) :
    (pr 500 (l.drop 12) = none ∧ Fk Q1 (k + 2) (Str.ofString "read_chunks") [.bytes l] = .raise) ∨ ∃ cs, pr 500 (l.drop 12) = some cs ∧ Fk Q1 (k + 2) (Str.ofString "read_chunks") [.bytes l] = .ok (.lst (cs.map cD)) := by
  have hll : l.length ≤ line := by unfold line; (first | lia | omega)
  have h12 := h.len
  have fin : ∀ rho os, execs (C1 (k + 1) 5) 92 ⟨rho, some (Str.ofString "out", os)⟩ ((fnAt P1 5).body.drop 8) = .ret (.lst os) := by
    intro rho os
    conv in (fnAt P1 5).body.drop 8 => whnf
    unfold C1
    simp +decide only [getR_some, e_name, ss_cons, seq_ret, s_ret, retO_ok, sh8, u5_4]
  obtain ⟨t1, t2⟩ := rc_turnA k l 12 499 [] hll (by decide)
  rw [ev_rc_go k l hl h]
  by_cases hp : 12 < l.length
  · rcases t2 hp with ⟨b1, b2⟩ | ⟨m, c, rs1, sz1, pd1, b1, b2, b3⟩
    · exact .inl ⟨b1, congrArg (fun o => outR (seqO o (C1 (k + 1) 5) 92 ((fnAt P1 5).body.drop 8))) b2⟩
    · rcases rc_loop k l (by (first | lia | omega)) 499 (12 + 8 + m) rs1 sz1 pd1 ([] ++ [cD c]) b1 (by (first | lia | omega)) (by show 1 ≤ _; (first | lia | omega)) with ⟨i1, i2⟩ | ⟨cs, rho1, i1, i2⟩
      · exact .inl ⟨by rw [b2, i1]; rfl, congrArg (fun o => outR (seqO o (C1 (k + 1) 5) 92 ((fnAt P1 5).body.drop 8))) (b3.trans i2)⟩
      · refine .inr ⟨c :: cs, by rw [b2, i1]; rfl, ?_⟩
        refine (congrArg (fun o => outR (seqO o (C1 (k + 1) 5) 92 ((fnAt P1 5).body.drop 8))) (b3.trans i2)).trans ?_
        show outR (execs _ _ _ _) = _
        rw [fin]
        rfl
  · refine .inr ⟨[], ?_, ?_⟩
    · unfold pr
      rw [if_pos (by rw [List.length_drop]; (first | lia | omega))]
    · refine (congrArg (fun o => outR (seqO o (C1 (k + 1) 5) 92 ((fnAt P1 5).body.drop 8))) (t1 (by (first | lia | omega)))).trans ?_
      show outR (execs _ _ _ _) = _
      rw [fin]
      rfl
end
end Mine
namespace Mine
section
open PySem

noncomputable def fmtN : List UInt8 := [102, 109, 116, 32]
noncomputable def dataN : List UInt8 := [100, 97, 116, 97]
theorem encs_two (a b : Ch) : (encs [a, b]).length = (encC 0 a).length + (encC 0 b).length := by simp [encs]
theorem ev_ww (k : Nat) (c r b : Int) (l : List UInt8) (hl : l.length ≤ 100000) : Fk Q1 (k + 3) (Str.ofString "write_wav") [.tup [.int c, .int r, .int b], .bytes l] =
    if fok c r b = true ∧ (l.length : Int) % (c * b / 8) = 0 then .ok (.bytes (plain [(fmtN, hd c r b (c * b / 8)), (dataN, l)])) else .raise := by
  rw [Fk_at (fnAt P1 11) (by rw [nat_Q1]; rfl) fnd1_11 ⟨rfl, by simp⟩]
  rw [show (fnAt P1 11).xs = [Str.ofString "sound", Str.ofString "samples"] from rfl]
  rw [show Q1.fns = fns1 from rfl, show Q1.G = G1 from rfl, show Q1.B = B1 from rfl]
  conv in (fnAt P1 11).body => whnf
  have hll : l.length ≤ line := by unfold line; (first | lia | omega)
  have w := ev_wf k c r b
  cases a1 : fok c r b with
  | false =>
    rw [a1] at w
    have w : Fk Q1 (k + 2) (Str.ofString "write_format") [.tup [.int c, .int r, .int b]] = .raise := w
    simp +decide only [getR_some, get_n, bind_ok, e_name, e_call, es_nil, es_cons, isF, ss_cons, seq_raise, asgO_raise, Bool.and_true, ns_nil, ns_cons, ns_Name, outR_raise, List.zip_cons_cons, List.zip_nil_right, sh80, s_asgK, u11_0, bb37, u11_9, w]
    rw [if_neg (by simp)]
  | true =>
    rw [a1] at w
    have w : Fk Q1 (k + 2) (Str.ofString "write_format") [.tup [.int c, .int r, .int b]] = .ok (.bytes (hd c r b (c * b / 8))) := w
    have q := fok_iff.mp a1
    have q6 := frame_pos q.2.2.2.2.1 q.1
    have q1 := q.1
    have q2 := q.2.1
    have z1 : -big < c ∧ c < big := in_big (by (first | lia | omega))
    have z2 : 0 < c * b / 8 := by (first | lia | omega)
    have v : Fk Q1 (k + 2) (Str.ofString "write_chunks") [.lst [.tup [.bytes [102, 109, 116, 32], .bytes (hd c r b (c * b / 8))], .tup [.bytes [100, 97, 116, 97], .bytes l]]] = .ok (.bytes (plain [(fmtN, hd c r b (c * b / 8)), (dataN, l)])) :=
      ev_wc k [(fmtN, hd c r b (c * b / 8)), (dataN, l)] (by
        intro x hx
        rcases List.mem_cons.mp hx with rfl | hx
        · exact ⟨rfl, by rw [hd_len]; decide⟩
        · rcases List.mem_cons.mp hx with rfl | hx
          · exact ⟨rfl, by show l.length < _; (first | lia | omega)⟩
          · cases hx) (by simp) (by rw [encs_two, encC_len, encC_len]; show 4 + 4 + (hd c r b (c * b / 8)).length + _ + (4 + 4 + l.length + _) + 100 ≤ _; rw [hd_len]; unfold line; (first | lia | omega))
    cases a2 : ((l.length : Int) % (c * b / 8) == 0) with
    | true =>
      simp +decide only [getR_some, get_n, set_n, bind_ok, e_const, e_name, e_bin, e_call, e_subC, e_tup, e_lst, es_nil, es_cons, c_int, c_bytes, b_mul, b_div, b_mod, m_ne, neR_some, q_int, isB, isF, k_len, len_b, t_cmp, ch_one, ss_nil, ss_cons, seq_next, seq_ret, s_if, ifO_f, s_ret, retO_ok, asgO_ok, ofS_some, a_name, Bool.and_true, Bool.not_true, lm_one, ns_nil, ns_cons, ns_Name, bm_Constant, ns_List, List.length_cons, List.length_nil, Nat.reduceAdd, Nat.zero_add, idxR_some, x_tup, outR_ret, true_and, and_self, true_or, List.zip_cons_cons, List.zip_nil_right, Int.reduceLE, Int.reduceLT, Int.reduceToNat, sh80, sh102, sh103, sh104, sh105, sh106, s_asgB, s_asgK, u11_0, u11_2, u11_4, u11_5, u11_6, u11_7, bb37, u11_9, bb27, u11_11, bb36, u11_14, w, v, z1, z2, hll, a2, List.getElem?_cons_zero, List.getElem?_cons_succ]
      rw [if_pos (eq_of_beq a2)]
    | false =>
      simp +decide only [getR_some, get_n, set_n, bind_ok, e_const, e_name, e_bin, e_call, e_subC, es_nil, es_cons, c_int, c_str, b_mul, b_div, b_mod, m_ne, neR_some, q_int, isB, isF, k_len, len_b, t_cmp, ch_one, ss_cons, seq_next, seq_raise, s_if, ifO_t, asgO_ok, ofS_some, a_name, s_raise, rsO_str, Bool.and_true, Bool.not_false, lm_one, ns_nil, ns_cons, ns_Name, bm_Constant, ns_Constant, idxR_some, x_tup, outR_raise, true_and, and_self, true_or, List.zip_cons_cons, List.zip_nil_right, Int.reduceLE, Int.reduceLT, Int.reduceToNat, sh80, sh102, sh104, sh105, sh106, s_asgB, s_asgK, u11_0, u11_2, u11_5, u11_6, u11_7, bb37, u11_9, bb27, u11_11, u11_12, w, z1, z2, hll, a2, List.getElem?_cons_zero, List.getElem?_cons_succ]
      rw [if_neg (by simpa using a2)]

theorem ev_save_ok (k : Nat) (a b d : D) (h : Fk Q1 (k + 1) (Str.ofString "write_wav") [a, b] = .ok d) : Fk Q1 (k + 2) (Str.ofString "_law_save") [a, b] = .ok d := by
  rw [Fk_at (fnAt P1 28) (by rw [nat_Q1]; rfl) fnd1_28 ⟨rfl, by simp⟩]
  rw [show (fnAt P1 28).xs = [Str.ofString "sound", Str.ofString "samples"] from rfl]
  rw [show Q1.fns = fns1 from rfl, show Q1.G = G1 from rfl, show Q1.B = B1 from rfl]
  conv in (fnAt P1 28).body => whnf
  simp +decide only [getR_some, get_n, set_n, bind_ok, e_const, e_name, e_call, es_nil, es_cons, c_none, isF, ss_cons, seq_next, seq_ret, s_ret, retO_ok, asgO_ok, ofS_some, a_name, s_try, tryO_ok, Bool.and_true, ns_nil, ns_cons, ns_Name, outR_ret, List.zip_cons_cons, List.zip_nil_right, sh80, sh102, sh172, sh173, sh174, s_asgC, u28_0, u28_2, u28_4, u28_5, bb38, u28_7, u28_8, h]
theorem ev_save_no (k : Nat) (a b : D) (h : Fk Q1 (k + 1) (Str.ofString "write_wav") [a, b] = .raise) : Fk Q1 (k + 2) (Str.ofString "_law_save") [a, b] = .ok (.str (Str.ofString "refused")) := by
  rw [Fk_at (fnAt P1 28) (by rw [nat_Q1]; rfl) fnd1_28 ⟨rfl, by simp⟩]
  rw [show (fnAt P1 28).xs = [Str.ofString "sound", Str.ofString "samples"] from rfl]
  rw [show Q1.fns = fns1 from rfl, show Q1.G = G1 from rfl, show Q1.B = B1 from rfl]
  conv in (fnAt P1 28).body => whnf
  simp +decide only [getR_some, get_n, set_n, bind_ok, e_const, e_name, e_call, es_nil, es_cons, c_str, c_none, isF, ss_cons, seq_next, seq_ret, s_ret, retO_ok, asgO_ok, ofS_some, a_name, s_try, tryO_raise, Bool.and_true, ns_nil, ns_cons, ns_Name, outR_ret, List.zip_cons_cons, List.zip_nil_right, sh80, sh102, sh172, sh173, sh174, s_asgC, u28_0, u28_2, u28_4, u28_5, bb38, u28_7, u28_8, h]

theorem ev_open_ok (k : Nat) (a d : D) (h : Fk Q1 (k + 1) (Str.ofString "read_wav") [a] = .ok d) : Fk Q1 (k + 2) (Str.ofString "_law_open") [a] = .ok d := by
  rw [Fk_at (fnAt P1 29) (by rw [nat_Q1]; rfl) fnd1_29 ⟨rfl, by simp⟩]
  rw [show (fnAt P1 29).xs = [Str.ofString "data"] from rfl]
  rw [show Q1.fns = fns1 from rfl, show Q1.G = G1 from rfl, show Q1.B = B1 from rfl]
  conv in (fnAt P1 29).body => whnf
  simp +decide only [getR_some, get_n, set_n, bind_ok, e_const, e_name, e_call, es_nil, es_cons, c_none, isF, ss_cons, seq_next, seq_ret, s_ret, retO_ok, asgO_ok, ofS_some, a_name, s_try, tryO_ok, Bool.and_true, ns_nil, ns_cons, ns_Name, outR_ret, List.zip_cons_cons, List.zip_nil_right, sh14, sh175, sh176, sh177, s_asgC, u29_0, u29_2, u29_3, bb32, u29_5, u29_6, h]
theorem ev_open_no (k : Nat) (a : D) (h : Fk Q1 (k + 1) (Str.ofString "read_wav") [a] = .raise) : Fk Q1 (k + 2) (Str.ofString "_law_open") [a] = .ok (.str (Str.ofString "refused")) := by
  rw [Fk_at (fnAt P1 29) (by rw [nat_Q1]; rfl) fnd1_29 ⟨rfl, by simp⟩]
  rw [show (fnAt P1 29).xs = [Str.ofString "data"] from rfl]
  rw [show Q1.fns = fns1 from rfl, show Q1.G = G1 from rfl, show Q1.B = B1 from rfl]
  conv in (fnAt P1 29).body => whnf
  simp +decide only [getR_some, get_n, set_n, bind_ok, e_const, e_name, e_call, es_nil, es_cons, c_str, c_none, isF, ss_cons, seq_next, seq_ret, s_ret, retO_ok, asgO_ok, ofS_some, a_name, s_try, tryO_raise, Bool.and_true, ns_nil, ns_cons, ns_Name, outR_ret, List.zip_cons_cons, List.zip_nil_right, sh14, sh175, sh176, sh177, s_asgC, u29_0, u29_2, u29_3, bb32, u29_5, u29_6, h]

theorem ev_join_ok (k : Nat) (a d : D) (h : Fk Q1 (k + 1) (Str.ofString "write_chunks") [a] = .ok d) : Fk Q1 (k + 2) (Str.ofString "_law_join") [a] = .ok d := by
  rw [Fk_at (fnAt P1 30) (by rw [nat_Q1]; rfl) fnd1_30 ⟨rfl, by simp⟩]
  rw [show (fnAt P1 30).xs = [Str.ofString "chunks"] from rfl]
  rw [show Q1.fns = fns1 from rfl, show Q1.G = G1 from rfl, show Q1.B = B1 from rfl]
  conv in (fnAt P1 30).body => whnf
  simp +decide only [getR_some, get_n, set_n, bind_ok, e_const, e_name, e_call, es_nil, es_cons, c_none, isF, ss_cons, seq_next, seq_ret, s_ret, retO_ok, asgO_ok, ofS_some, a_name, s_try, tryO_ok, Bool.and_true, ns_nil, ns_cons, ns_Name, outR_ret, List.zip_cons_cons, List.zip_nil_right, sh23, sh178, sh179, sh180, s_asgC, u30_0, u30_2, u30_3, bb36, u30_5, u30_6, h]
theorem ev_join_no (k : Nat) (a : D) (h : Fk Q1 (k + 1) (Str.ofString "write_chunks") [a] = .raise) : Fk Q1 (k + 2) (Str.ofString "_law_join") [a] = .ok (.str (Str.ofString "refused")) := by
  rw [Fk_at (fnAt P1 30) (by rw [nat_Q1]; rfl) fnd1_30 ⟨rfl, by simp⟩]
  rw [show (fnAt P1 30).xs = [Str.ofString "chunks"] from rfl]
  rw [show Q1.fns = fns1 from rfl, show Q1.G = G1 from rfl, show Q1.B = B1 from rfl]
  conv in (fnAt P1 30).body => whnf
  simp +decide only [getR_some, get_n, set_n, bind_ok, e_const, e_name, e_call, es_nil, es_cons, c_str, c_none, isF, ss_cons, seq_next, seq_ret, s_ret, retO_ok, asgO_ok, ofS_some, a_name, s_try, tryO_raise, Bool.and_true, ns_nil, ns_cons, ns_Name, outR_ret, List.zip_cons_cons, List.zip_nil_right, sh23, sh178, sh179, sh180, s_asgC, u30_0, u30_2, u30_3, bb36, u30_5, u30_6, h]

theorem ev_split_ok (k : Nat) (a d : D) (h : Fk Q1 (k + 1) (Str.ofString "read_chunks") [a] = .ok d) : Fk Q1 (k + 2) (Str.ofString "_law_split") [a] = .ok d := by
  rw [Fk_at (fnAt P1 31) (by rw [nat_Q1]; rfl) fnd1_31 ⟨rfl, by simp⟩]
  rw [show (fnAt P1 31).xs = [Str.ofString "data"] from rfl]
  rw [show Q1.fns = fns1 from rfl, show Q1.G = G1 from rfl, show Q1.B = B1 from rfl]
  conv in (fnAt P1 31).body => whnf
  simp +decide only [getR_some, get_n, set_n, bind_ok, e_const, e_name, e_call, es_nil, es_cons, c_none, isF, ss_cons, seq_next, seq_ret, s_ret, retO_ok, asgO_ok, ofS_some, a_name, s_try, tryO_ok, Bool.and_true, ns_nil, ns_cons, ns_Name, outR_ret, List.zip_cons_cons, List.zip_nil_right, sh14, sh175, sh176, sh177, s_asgC, u31_0, u31_2, u31_3, bb30, u31_5, u31_6, h]
theorem ev_split_no (k : Nat) (a : D) (h : Fk Q1 (k + 1) (Str.ofString "read_chunks") [a] = .raise) : Fk Q1 (k + 2) (Str.ofString "_law_split") [a] = .ok (.str (Str.ofString "refused")) := by
  rw [Fk_at (fnAt P1 31) (by rw [nat_Q1]; rfl) fnd1_31 ⟨rfl, by simp⟩]
  rw [show (fnAt P1 31).xs = [Str.ofString "data"] from rfl]
  rw [show Q1.fns = fns1 from rfl, show Q1.G = G1 from rfl, show Q1.B = B1 from rfl]
  conv in (fnAt P1 31).body => whnf
  simp +decide only [getR_some, get_n, set_n, bind_ok, e_const, e_name, e_call, es_nil, es_cons, c_str, c_none, isF, ss_cons, seq_next, seq_ret, s_ret, retO_ok, asgO_ok, ofS_some, a_name, s_try, tryO_raise, Bool.and_true, ns_nil, ns_cons, ns_Name, outR_ret, List.zip_cons_cons, List.zip_nil_right, sh14, sh175, sh176, sh177, s_asgC, u31_0, u31_2, u31_3, bb30, u31_5, u31_6, h]

theorem ev_typed (k : Nat) (a b c : Int) (l : List UInt8) : Fk Q1 (k + 1) (Str.ofString "_law_typed") [.tup [.tup [.int a, .int b, .int c], .bytes l]] = .ok (.bool true) := by
  rw [Fk_at (fnAt P1 32) (by rw [nat_Q1]; rfl) fnd1_32 ⟨rfl, by simp⟩]
  rw [show (fnAt P1 32).xs = [Str.ofString "got"] from rfl]
  rw [show Q1.fns = fns1 from rfl, show Q1.G = G1 from rfl, show Q1.B = B1 from rfl]
  conv in (fnAt P1 32).body => whnf
  have t1 : typD (.int a) = .ok (.typ "int") := rfl
  have t2 : typD (.int b) = .ok (.typ "int") := rfl
  have t3 : typD (.int c) = .ok (.typ "int") := rfl
  have t4 : ∀ ds, typD (.tup ds) = .ok (.typ "tuple") := fun _ => rfl
  have t5 : typD (.bytes l) = .ok (.typ "bytes") := rfl
  simp +decide only [getR_some, get_n, set_n, bind_ok, e_const, e_name, e_cmp, e_call, e_subC, es_nil, es_cons, c_int, isB, k_type, t_not, notR_t, t_cmp, ch_one, boolR, ss_nil, ss_cons, seq_next, seq_ret, s_if, ifO_f, s_ret, retO_ok, a_name, s_for, forR_ok, for_nil, for_cons, forA_some, forB_next, i_sub, itS_t, Bool.and_true, beq_self_eq_true, lm_one, ns_nil, ns_cons, bm_Name, ns_Name, ns_Subscript, nl_int, nls_nil, nls_cons, m_isT, idxR_some, x_tup, outR_ret, and_self, List.zip_cons_cons, List.zip_nil_right, Int.reduceLE, Int.reduceLT, Int.reduceToNat, sh181, sh182, sh183, sh184, u32_0, u32_2, u32_3, bb35, u32_5, gg0, u32_6, gg2, u32_7, gg3, u32_8, t1, t2, t3, t4, t5, List.getElem?_cons_zero, List.getElem?_cons_succ]

theorem pt_stepA (k : Nat) (ps : D) (c : Ch) (r : List D) : forO (C1 (k + 1) 33) 98 (forTg (stAt (fnAt P1 33) 1)) (forBd (stAt (fnAt P1 33) 1)) (cD c :: r) ⟨[(Str.ofString "parts", ps)], none⟩ = forO (C1 (k + 1) 33) 98 (forTg (stAt (fnAt P1 33) 1)) (forBd (stAt (fnAt P1 33) 1)) r ⟨[(Str.ofString "parts", ps), (Str.ofString "pair", cD c), (Str.ofString "piece", .bytes c.2)], none⟩ := by
  have hA : assignD (C1 (k + 1) 33) ⟨[(Str.ofString "parts", ps)], none⟩ (forTg (stAt (fnAt P1 33) 1)) (cD c) = some ⟨[(Str.ofString "parts", ps), (Str.ofString "pair", cD c)], none⟩ := by
    conv in forTg _ => whnf
    unfold C1
    simp +decide only [set_n, a_name, sh188, u33_3]
  have hB : execs (C1 (k + 1) 33) 98 ⟨[(Str.ofString "parts", ps), (Str.ofString "pair", cD c)], none⟩ (forBd (stAt (fnAt P1 33) 1)) = .next ⟨[(Str.ofString "parts", ps), (Str.ofString "pair", cD c), (Str.ofString "piece", .bytes c.2)], none⟩ := by
    conv in forBd _ => whnf
    unfold C1 cD
    have t4 : ∀ ds, typD (.tup ds) = .ok (.typ "tuple") := fun _ => rfl
    have t5 : ∀ l, typD (.bytes l) = .ok (.typ "bytes") := fun _ => rfl
    simp +decide only [getR_some, get_n, set_n, bind_ok, e_name, e_call, es_nil, es_cons, isB, k_type, t_not, notR_t, t_cmp, ch_one, ss_nil, ss_cons, seq_next, s_if, ifO_f, a_name, s_for, forR_ok, for_nil, for_cons, forA_some, forB_next, i_name, itN_t, Bool.and_true, beq_self_eq_true, lm_one, ns_nil, ns_cons, bm_Name, ns_Name, nl_bytes, nls_nil, nls_cons, m_isT, sh186, sh187, sh190, sh191, u33_2, u33_4, u33_5, bb35, u33_7, gg0, u33_9, gg3, u33_10, t4, t5]
  rw [for_cons, hA, forA_some, hB, forB_next]

theorem pt_stepB (k : Nat) (ps : D) (p0 c0 : D) (c : Ch) (r : List D) : forO (C1 (k + 1) 33) 98 (forTg (stAt (fnAt P1 33) 1)) (forBd (stAt (fnAt P1 33) 1)) (cD c :: r) ⟨[(Str.ofString "parts", ps), (Str.ofString "pair", p0), (Str.ofString "piece", c0)], none⟩ = forO (C1 (k + 1) 33) 98 (forTg (stAt (fnAt P1 33) 1)) (forBd (stAt (fnAt P1 33) 1)) r ⟨[(Str.ofString "parts", ps), (Str.ofString "pair", cD c), (Str.ofString "piece", .bytes c.2)], none⟩ := by
  have hA : assignD (C1 (k + 1) 33) ⟨[(Str.ofString "parts", ps), (Str.ofString "pair", p0), (Str.ofString "piece", c0)], none⟩ (forTg (stAt (fnAt P1 33) 1)) (cD c) = some ⟨[(Str.ofString "parts", ps), (Str.ofString "pair", cD c), (Str.ofString "piece", c0)], none⟩ := by
    conv in forTg _ => whnf
    unfold C1
    simp +decide only [set_n, a_name, sh189, u33_3]
  have hB : execs (C1 (k + 1) 33) 98 ⟨[(Str.ofString "parts", ps), (Str.ofString "pair", cD c), (Str.ofString "piece", c0)], none⟩ (forBd (stAt (fnAt P1 33) 1)) = .next ⟨[(Str.ofString "parts", ps), (Str.ofString "pair", cD c), (Str.ofString "piece", .bytes c.2)], none⟩ := by
    conv in forBd _ => whnf
    unfold C1 cD
    have t4 : ∀ ds, typD (.tup ds) = .ok (.typ "tuple") := fun _ => rfl
    have t5 : ∀ l, typD (.bytes l) = .ok (.typ "bytes") := fun _ => rfl
    simp +decide only [getR_some, get_n, set_n, bind_ok, e_name, e_call, es_nil, es_cons, isB, k_type, t_not, notR_t, t_cmp, ch_one, ss_nil, ss_cons, seq_next, s_if, ifO_f, a_name, s_for, forR_ok, for_nil, for_cons, forA_some, forB_next, i_name, itN_t, Bool.and_true, beq_self_eq_true, lm_one, ns_nil, ns_cons, bm_Name, ns_Name, nl_bytes, nls_nil, nls_cons, m_isT, sh186, sh187, sh191, u33_2, u33_4, u33_5, bb35, u33_7, gg0, u33_9, gg3, u33_10, t4, t5]
  rw [for_cons, hA, forA_some, hB, forB_next]

theorem pt_loop (k : Nat) (ps : D) : ∀ (cs : List Ch) (p0 c0 : D), ∃ p1 c1, forO (C1 (k + 1) 33) 98 (forTg (stAt (fnAt P1 33) 1)) (forBd (stAt (fnAt P1 33) 1)) (cs.map cD) ⟨[(Str.ofString "parts", ps), (Str.ofString "pair", p0), (Str.ofString "piece", c0)], none⟩ = .next ⟨[(Str.ofString "parts", ps), (Str.ofString "pair", p1), (Str.ofString "piece", c1)], none⟩
  | [], p0, c0 => ⟨p0, c0, by rw [List.map_nil, for_nil]⟩
  | c :: cs, p0, c0 => by
    rw [List.map_cons, pt_stepB]
    exact pt_loop k ps cs _ _
theorem ev_ptyped (k : Nat) (cs : List Ch) : Fk Q1 (k + 2) (Str.ofString "_law_parts_typed") [.lst (cs.map cD)] = .ok (.bool true) := by
  rw [Fk_at (fnAt P1 33) (by rw [nat_Q1]; rfl) fnd1_33 ⟨rfl, by simp⟩]
  rw [show (fnAt P1 33).xs = [Str.ofString "parts"] from rfl]
  rw [show Q1.fns = fns1 from rfl, show Q1.G = G1 from rfl, show Q1.B = B1 from rfl]
  conv in (fnAt P1 33).body => whnf
  have t6 : ∀ ds, typD (.lst ds) = .ok (.typ "list") := fun _ => rfl
  have fin : ∀ rho, execs ⟨Fk Q1 (k + 1), fns1, G1, B1, (fnAt P1 33).scope⟩ 98 ⟨rho, none⟩ ((fnAt P1 33).body.drop 2) = .ret (.bool true) := by
    intro rho
    conv in (fnAt P1 33).body.drop 2 => whnf
    simp +decide only [e_const, c_bool, ss_cons, seq_ret, s_ret, retO_ok]
  cases cs with
  | nil =>
    simp +decide only [getR_some, get_n, bind_ok, e_name, e_call, es_nil, es_cons, isB, k_type, t_not, notR_t, t_cmp, ch_one, ss_nil, ss_cons, seq_next, s_if, ifO_f, s_for, forR_ok, i_name, itN_l, Bool.and_true, beq_self_eq_true, lm_one, ns_nil, ns_cons, bm_Name, ns_Name, m_isT, List.zip_cons_cons, List.zip_nil_right, sh185, u33_0, u33_1, bb35, u33_7, gg1, u33_8, t6]
    exact congrArg outR (fin [(Str.ofString "parts", .lst [])])
  | cons c r =>
    have e0 := pt_stepA k (.lst ((c :: r).map cD)) c (r.map cD)
    obtain ⟨a1, a2, e⟩ := pt_loop k (.lst ((c :: r).map cD)) r (cD c) (.bytes c.2)
    rw [e] at e0
    simp +decide only [getR_some, get_n, bind_ok, e_name, e_call, es_nil, es_cons, isB, k_type, t_not, notR_t, t_cmp, ch_one, ss_nil, ss_cons, seq_next, s_if, ifO_f, s_for, forR_ok, i_name, itN_l, Bool.and_true, beq_self_eq_true, lm_one, ns_nil, ns_cons, bm_Name, ns_Name, m_isT, List.zip_cons_cons, List.zip_nil_right, sh185, u33_0, u33_1, bb35, u33_7, gg1, u33_8, t6]
    refine (congrArg (fun o => outR (seqO o _ _ _)) e0).trans ?_
    exact congrArg outR (fin [(Str.ofString "parts", .lst ((c :: r).map cD)), (Str.ofString "pair", a1), (Str.ofString "piece", a2)])

/-! _law_chunks -/
noncomputable def chOf (body samples name other : List UInt8) (c : Nat) : Ch := if c = 102 then (fmtN, body) else if c = 100 then (dataN, samples) else (name, other)
theorem sign_eq (c : Nat) (x : Str) (d : Nat) (h : x = ⟨#[d]⟩) : ((⟨#[c]⟩ : Str) == x) = decide (c = d) := by
  subst h
  rw [Bool.eq_iff_iff]
  simp

theorem lc_stepA (k : Nat) (sh : D) (bd sm nm_ ot : List UInt8) (os : List D) (ho : os.length ≤ 1000) (c : Nat) (r : List D) : forO (C1 (k + 1) 34) 97 (forTg (stAt (fnAt P1 34) 1)) (forBd (stAt (fnAt P1 34) 1)) (.str ⟨#[c]⟩ :: r) ⟨[(Str.ofString "shape", sh), (Str.ofString "body", .bytes bd), (Str.ofString "samples", .bytes sm), (Str.ofString "name", .bytes nm_), (Str.ofString "other", .bytes ot)], some (Str.ofString "out", os)⟩ = forO (C1 (k + 1) 34) 97 (forTg (stAt (fnAt P1 34) 1)) (forBd (stAt (fnAt P1 34) 1)) r ⟨[(Str.ofString "shape", sh), (Str.ofString "body", .bytes bd), (Str.ofString "samples", .bytes sm), (Str.ofString "name", .bytes nm_), (Str.ofString "other", .bytes ot), (Str.ofString "mark", .str ⟨#[c]⟩)], some (Str.ofString "out", os ++ [cD (chOf bd sm nm_ ot c)])⟩ := by
  have hA : assignD (C1 (k + 1) 34) ⟨[(Str.ofString "shape", sh), (Str.ofString "body", .bytes bd), (Str.ofString "samples", .bytes sm), (Str.ofString "name", .bytes nm_), (Str.ofString "other", .bytes ot)], some (Str.ofString "out", os)⟩ (forTg (stAt (fnAt P1 34) 1)) (.str ⟨#[c]⟩) = some ⟨[(Str.ofString "shape", sh), (Str.ofString "body", .bytes bd), (Str.ofString "samples", .bytes sm), (Str.ofString "name", .bytes nm_), (Str.ofString "other", .bytes ot), (Str.ofString "mark", .str ⟨#[c]⟩)], some (Str.ofString "out", os)⟩ := by
    conv in forTg _ => whnf
    unfold C1
    simp +decide only [a_name, nl_str, sh198, sh207, u34_13]
  have hB : execs (C1 (k + 1) 34) 97 ⟨[(Str.ofString "shape", sh), (Str.ofString "body", .bytes bd), (Str.ofString "samples", .bytes sm), (Str.ofString "name", .bytes nm_), (Str.ofString "other", .bytes ot), (Str.ofString "mark", .str ⟨#[c]⟩)], some (Str.ofString "out", os)⟩ (forBd (stAt (fnAt P1 34) 1)) = .next ⟨[(Str.ofString "shape", sh), (Str.ofString "body", .bytes bd), (Str.ofString "samples", .bytes sm), (Str.ofString "name", .bytes nm_), (Str.ofString "other", .bytes ot), (Str.ofString "mark", .str ⟨#[c]⟩)], some (Str.ofString "out", os ++ [cD (chOf bd sm nm_ ot c)])⟩ := by
    conv in forBd _ => whnf
    unfold C1 cD
    have h1 := sign_eq c (Str.ofString "f") 102 (by kernel_rfl)
    have h2 := sign_eq c (Str.ofString "d") 100 (by kernel_rfl)
    have ho' : os.length ≤ 1000000 := by (first | lia | omega)
    cases a1 : decide (c = 102) with
    | true =>
      have e : c = 102 := of_decide_eq_true a1
      rw [a1] at h1
      have e2 : chOf bd sm nm_ ot c = (fmtN, bd) := by unfold chOf; rw [if_pos e]
      rw [e2]
      simp +decide only [getR_some, bind_ok, e_const, e_name, e_tup, es_nil, es_cons, c_str, c_bytes, m_eq, eqR_some, q_str, t_cmp, ch_one, ss_nil, ss_cons, seq_next, s_if, ifO_t, s_app, appO_ok, String.reduceEq, decide_false, Bool.and_true, Bool.not_false, beq_self_eq_true, lm_one, bm_Constant, ns_Tuple, List.length_cons, List.length_nil, Nat.reduceAdd, Nat.zero_add, nl_bytes, nl_tup, nls_nil, nls_cons, sh193, sh197, sh201, sh202, u34_2, u34_11, u34_12, h1, ho']
      rfl
    | false =>
      have e : ¬ c = 102 := of_decide_eq_false a1
      rw [a1] at h1
      cases a2 : decide (c = 100) with
      | true =>
        have e1 : c = 100 := of_decide_eq_true a2
        rw [a2] at h2
        have e2 : chOf bd sm nm_ ot c = (dataN, sm) := by unfold chOf; rw [if_neg e, if_pos e1]
        rw [e2]
        simp +decide only [getR_some, bind_ok, e_const, e_name, e_tup, es_nil, es_cons, c_str, c_bytes, m_eq, eqR_some, q_str, t_cmp, ch_one, ss_nil, ss_cons, seq_next, s_if, ifO_t, ifO_f, s_app, appO_ok, String.reduceEq, decide_false, Bool.and_true, Bool.not_false, beq_self_eq_true, lm_one, bm_Constant, ns_Tuple, List.length_cons, List.length_nil, Nat.reduceAdd, Nat.zero_add, nl_bytes, nl_tup, nls_nil, nls_cons, sh194, sh197, sh202, sh205, u34_4, u34_11, u34_12, h1, h2, ho']
        rfl
      | false =>
        have e1 : ¬ c = 100 := of_decide_eq_false a2
        rw [a2] at h2
        have e2 : chOf bd sm nm_ ot c = (nm_, ot) := by unfold chOf; rw [if_neg e, if_neg e1]
        rw [e2]
        simp +decide only [getR_some, bind_ok, e_const, e_name, e_tup, es_nil, es_cons, c_str, m_eq, eqR_some, q_str, t_cmp, ch_one, ss_nil, ss_cons, seq_next, s_if, ifO_f, s_app, appO_ok, String.reduceEq, decide_false, Bool.and_true, Bool.not_false, beq_self_eq_true, lm_one, bm_Constant, ns_Tuple, List.length_cons, List.length_nil, Nat.reduceAdd, Nat.zero_add, nl_bytes, nl_tup, nls_nil, nls_cons, sh195, sh196, sh197, sh202, sh203, sh204, u34_6, u34_8, u34_11, u34_12, h1, h2, ho']
  rw [for_cons, hA, forA_some, hB, forB_next]

theorem lc_stepB (k : Nat) (sh : D) (bd sm nm_ ot : List UInt8) (m0 : D) (os : List D) (ho : os.length ≤ 1000) (c : Nat) (r : List D) : forO (C1 (k + 1) 34) 97 (forTg (stAt (fnAt P1 34) 1)) (forBd (stAt (fnAt P1 34) 1)) (.str ⟨#[c]⟩ :: r) ⟨[(Str.ofString "shape", sh), (Str.ofString "body", .bytes bd), (Str.ofString "samples", .bytes sm), (Str.ofString "name", .bytes nm_), (Str.ofString "other", .bytes ot), (Str.ofString "mark", m0)], some (Str.ofString "out", os)⟩ = forO (C1 (k + 1) 34) 97 (forTg (stAt (fnAt P1 34) 1)) (forBd (stAt (fnAt P1 34) 1)) r ⟨[(Str.ofString "shape", sh), (Str.ofString "body", .bytes bd), (Str.ofString "samples", .bytes sm), (Str.ofString "name", .bytes nm_), (Str.ofString "other", .bytes ot), (Str.ofString "mark", .str ⟨#[c]⟩)], some (Str.ofString "out", os ++ [cD (chOf bd sm nm_ ot c)])⟩ := by
  have hA : assignD (C1 (k + 1) 34) ⟨[(Str.ofString "shape", sh), (Str.ofString "body", .bytes bd), (Str.ofString "samples", .bytes sm), (Str.ofString "name", .bytes nm_), (Str.ofString "other", .bytes ot), (Str.ofString "mark", m0)], some (Str.ofString "out", os)⟩ (forTg (stAt (fnAt P1 34) 1)) (.str ⟨#[c]⟩) = some ⟨[(Str.ofString "shape", sh), (Str.ofString "body", .bytes bd), (Str.ofString "samples", .bytes sm), (Str.ofString "name", .bytes nm_), (Str.ofString "other", .bytes ot), (Str.ofString "mark", .str ⟨#[c]⟩)], some (Str.ofString "out", os)⟩ := by
    conv in forTg _ => whnf
    unfold C1
    simp +decide only [a_name, nl_str, sh199, sh207, u34_13]
  have hB : execs (C1 (k + 1) 34) 97 ⟨[(Str.ofString "shape", sh), (Str.ofString "body", .bytes bd), (Str.ofString "samples", .bytes sm), (Str.ofString "name", .bytes nm_), (Str.ofString "other", .bytes ot), (Str.ofString "mark", .str ⟨#[c]⟩)], some (Str.ofString "out", os)⟩ (forBd (stAt (fnAt P1 34) 1)) = .next ⟨[(Str.ofString "shape", sh), (Str.ofString "body", .bytes bd), (Str.ofString "samples", .bytes sm), (Str.ofString "name", .bytes nm_), (Str.ofString "other", .bytes ot), (Str.ofString "mark", .str ⟨#[c]⟩)], some (Str.ofString "out", os ++ [cD (chOf bd sm nm_ ot c)])⟩ := by
    conv in forBd _ => whnf
    unfold C1 cD
    have h1 := sign_eq c (Str.ofString "f") 102 (by kernel_rfl)
    have h2 := sign_eq c (Str.ofString "d") 100 (by kernel_rfl)
    have ho' : os.length ≤ 1000000 := by (first | lia | omega)
    cases a1 : decide (c = 102) with
    | true =>
      have e : c = 102 := of_decide_eq_true a1
      rw [a1] at h1
      have e2 : chOf bd sm nm_ ot c = (fmtN, bd) := by unfold chOf; rw [if_pos e]
      rw [e2]
      simp +decide only [getR_some, bind_ok, e_const, e_name, e_tup, es_nil, es_cons, c_str, c_bytes, m_eq, eqR_some, q_str, t_cmp, ch_one, ss_nil, ss_cons, seq_next, s_if, ifO_t, s_app, appO_ok, String.reduceEq, decide_false, Bool.and_true, Bool.not_false, beq_self_eq_true, lm_one, bm_Constant, ns_Tuple, List.length_cons, List.length_nil, Nat.reduceAdd, Nat.zero_add, nl_bytes, nl_tup, nls_nil, nls_cons, sh193, sh197, sh201, sh202, u34_2, u34_11, u34_12, h1, ho']
      rfl
    | false =>
      have e : ¬ c = 102 := of_decide_eq_false a1
      rw [a1] at h1
      cases a2 : decide (c = 100) with
      | true =>
        have e1 : c = 100 := of_decide_eq_true a2
        rw [a2] at h2
        have e2 : chOf bd sm nm_ ot c = (dataN, sm) := by unfold chOf; rw [if_neg e, if_pos e1]
        rw [e2]
        simp +decide only [getR_some, bind_ok, e_const, e_name, e_tup, es_nil, es_cons, c_str, c_bytes, m_eq, eqR_some, q_str, t_cmp, ch_one, ss_nil, ss_cons, seq_next, s_if, ifO_t, ifO_f, s_app, appO_ok, String.reduceEq, decide_false, Bool.and_true, Bool.not_false, beq_self_eq_true, lm_one, bm_Constant, ns_Tuple, List.length_cons, List.length_nil, Nat.reduceAdd, Nat.zero_add, nl_bytes, nl_tup, nls_nil, nls_cons, sh194, sh197, sh202, sh205, u34_4, u34_11, u34_12, h1, h2, ho']
        rfl
      | false =>
        have e1 : ¬ c = 100 := of_decide_eq_false a2
        rw [a2] at h2
        have e2 : chOf bd sm nm_ ot c = (nm_, ot) := by unfold chOf; rw [if_neg e, if_neg e1]
        rw [e2]
        simp +decide only [getR_some, bind_ok, e_const, e_name, e_tup, es_nil, es_cons, c_str, m_eq, eqR_some, q_str, t_cmp, ch_one, ss_nil, ss_cons, seq_next, s_if, ifO_f, s_app, appO_ok, String.reduceEq, decide_false, Bool.and_true, Bool.not_false, beq_self_eq_true, lm_one, bm_Constant, ns_Tuple, List.length_cons, List.length_nil, Nat.reduceAdd, Nat.zero_add, nl_bytes, nl_tup, nls_nil, nls_cons, sh195, sh196, sh197, sh202, sh203, sh204, u34_6, u34_8, u34_11, u34_12, h1, h2, ho']
  rw [for_cons, hA, forA_some, hB, forB_next]

theorem lc_loop (k : Nat) (sh : D) (bd sm nm_ ot : List UInt8) : ∀ (cs : List Nat) (m0 : D) (os : List D), os.length + cs.length ≤ 1000 → ∃ m1, forO (C1 (k + 1) 34) 97 (forTg (stAt (fnAt P1 34) 1)) (forBd (stAt (fnAt P1 34) 1)) (cs.map fun c => .str ⟨#[c]⟩) ⟨[(Str.ofString "shape", sh), (Str.ofString "body", .bytes bd), (Str.ofString "samples", .bytes sm), (Str.ofString "name", .bytes nm_), (Str.ofString "other", .bytes ot), (Str.ofString "mark", m0)], some (Str.ofString "out", os)⟩ = .next ⟨[(Str.ofString "shape", sh), (Str.ofString "body", .bytes bd), (Str.ofString "samples", .bytes sm), (Str.ofString "name", .bytes nm_), (Str.ofString "other", .bytes ot)] ++ [(Str.ofString "mark", m1)], some (Str.ofString "out", os ++ (cs.map (chOf bd sm nm_ ot)).map cD)⟩
  | [], m0, os, _ => ⟨m0, by rw [List.map_nil, for_nil, List.map_nil, List.map_nil, List.append_nil]; rfl⟩
  | c :: cs, m0, os, h => by
    rw [List.length_cons] at h
    obtain ⟨m1, e⟩ := lc_loop k sh bd sm nm_ ot cs (.str ⟨#[c]⟩) (os ++ [cD (chOf bd sm nm_ ot c)]) (by rw [List.length_append]; show os.length + 1 + _ ≤ _; (first | lia | omega))
    refine ⟨m1, ?_⟩
    rw [List.map_cons, lc_stepB k sh bd sm nm_ ot m0 os (by (first | lia | omega)) c, e, List.append_assoc]
    rfl
theorem ev_lchunks (k : Nat) (x : Str) (bd sm nm_ ot : List UInt8) (ha : x.cps.all (· < 128) = true) (hz : x.cps.size ≤ 100) : Fk Q1 (k + 2) (Str.ofString "_law_chunks") [.str x, .bytes bd, .bytes sm, .bytes nm_, .bytes ot] = .ok (.lst ((x.cps.toList.map (chOf bd sm nm_ ot)).map cD)) := by
  rw [Fk_at (fnAt P1 34) (by rw [nat_Q1]; rfl) fnd1_34 ⟨rfl, by simp⟩]
  rw [show (fnAt P1 34).xs = [Str.ofString "shape", Str.ofString "body", Str.ofString "samples", Str.ofString "name", Str.ofString "other"] from rfl]
  rw [show Q1.fns = fns1 from rfl, show Q1.G = G1 from rfl, show Q1.B = B1 from rfl]
  conv in (fnAt P1 34).body => whnf
  have fin : ∀ rho os, execs ⟨Fk Q1 (k + 1), fns1, G1, B1, (fnAt P1 34).scope⟩ 98 ⟨rho, some (Str.ofString "out", os)⟩ ((fnAt P1 34).body.drop 2) = .ret (.lst os) := by
    intro rho os
    conv in (fnAt P1 34).body.drop 2 => whnf
    simp +decide only [getR_some, e_name, ss_cons, seq_ret, s_ret, retO_ok, sh8, u34_10]
  have hz' : x.cps.toList.length ≤ 100 := by rw [Array.length_toList]; exact hz
  have ht : textSigns x = x.cps.toList.map fun c => D.str ⟨#[c]⟩ := rfl
  generalize x.cps.toList = l at hz' ht
  cases l with
  | nil =>
    rw [List.map_nil] at ht
    simp +decide only [getR_some, bind_ok, e_name, es_nil, ss_cons, seq_next, seq_ret, s_ret, retO_ok, s_own, ownO_ok, s_for, forR_ok, for_nil, i_name, itN_s, List.length_nil, nls_nil, outR_ret, and_self, List.zip_cons_cons, List.zip_nil_right, sh192, sh200, sh8, sh206, u34_0, u34_10, u34_11, ha, ht]
    rfl
  | cons c r =>
    rw [List.map_cons] at ht
    rw [List.length_cons] at hz'
    have e0 := lc_stepA k (.str x) bd sm nm_ ot [] (by decide) c (r.map fun c => D.str ⟨#[c]⟩)
    obtain ⟨m1, e⟩ := lc_loop k (.str x) bd sm nm_ ot r (.str ⟨#[c]⟩) ([] ++ [cD (chOf bd sm nm_ ot c)]) (by show 1 + _ ≤ _; (first | lia | omega))
    rw [e] at e0
    rw [← ht] at e0
    generalize hg : textSigns x = ts at e0
    simp +decide only [getR_some, bind_ok, es_nil, ss_cons, seq_next, s_own, ownO_ok, s_for, forR_ok, i_name, itN_s, List.length_nil, nls_nil, and_self, List.zip_cons_cons, List.zip_nil_right, sh192, sh200, sh206, u34_0, u34_11, ha, hg]
    refine (congrArg (fun o => outR (seqO o _ _ _)) e0).trans ?_
    exact congrArg outR (fin ([(Str.ofString "shape", .str x), (Str.ofString "body", .bytes bd), (Str.ofString "samples", .bytes sm), (Str.ofString "name", .bytes nm_), (Str.ofString "other", .bytes ot)] ++ [(Str.ofString "mark", m1)]) ([] ++ [cD (chOf bd sm nm_ ot c)] ++ (r.map (chOf bd sm nm_ ot)).map cD))
end
end Mine
namespace Mine
section
open PySem

noncomputable abbrev Wv := List (List UInt8) × D × D
noncomputable def wvStep (t : Wv) (c : Ch) : Wv := if c.1 = fmtN then (t.1 ++ [fmtN], .bytes c.2, t.2.2) else if c.1 = dataN then (t.1 ++ [dataN], t.2.1, .bytes c.2) else t
theorem eq_lists (a b : List (List UInt8)) : eqD 4 (.lst (a.map D.bytes)) (.lst (b.map D.bytes)) = some (a == b) := by
  show eqL (eqD 3) (a.map D.bytes) (b.map D.bytes) = _
  induction a generalizing b with
  | nil => cases b <;> rfl
  | cons x r ih =>
    cases b with
    | nil => rfl
    | cons y s =>
      show (match some (x == y), eqL (eqD 3) (r.map D.bytes) (s.map D.bytes) with | some x, some y => some (x && y) | _, _ => none) = _
      rw [ih]
      rfl

theorem wv_stepA (k : Nat) (da ch : D) (t : Wv) (ht : t.1.length ≤ 1000) (c : Ch) (r : List D) : forO (C1 (k + 1) 12) 94 (forTg (stAt (fnAt P1 12) 4)) (forBd (stAt (fnAt P1 12) 4)) (cD c :: r) ⟨[(Str.ofString "data", da), (Str.ofString "chunks", ch), (Str.ofString "fmt_body", t.2.1), (Str.ofString "data_body", t.2.2)], some (Str.ofString "names", t.1.map D.bytes)⟩ = forO (C1 (k + 1) 12) 94 (forTg (stAt (fnAt P1 12) 4)) (forBd (stAt (fnAt P1 12) 4)) r ⟨[(Str.ofString "data", da), (Str.ofString "chunks", ch), (Str.ofString "fmt_body", (wvStep t c).2.1), (Str.ofString "data_body", (wvStep t c).2.2), (Str.ofString "name", .bytes c.1), (Str.ofString "body", .bytes c.2)], some (Str.ofString "names", (wvStep t c).1.map D.bytes)⟩ := by
  have hA : assignD (C1 (k + 1) 12) ⟨[(Str.ofString "data", da), (Str.ofString "chunks", ch), (Str.ofString "fmt_body", t.2.1), (Str.ofString "data_body", t.2.2)], some (Str.ofString "names", t.1.map D.bytes)⟩ (forTg (stAt (fnAt P1 12) 4)) (cD c) = some ⟨[(Str.ofString "data", da), (Str.ofString "chunks", ch), (Str.ofString "fmt_body", t.2.1), (Str.ofString "data_body", t.2.2), (Str.ofString "name", .bytes c.1), (Str.ofString "body", .bytes c.2)], some (Str.ofString "names", t.1.map D.bytes)⟩ := by
    conv in forTg _ => whnf
    unfold C1 cD
    simp +decide only [a_tup, st_nil, st_cons, stO_some, nl_bytes, sh121, sh123, sh138, sh142, u12_11, u12_13]
  have hB : execs (C1 (k + 1) 12) 94 ⟨[(Str.ofString "data", da), (Str.ofString "chunks", ch), (Str.ofString "fmt_body", t.2.1), (Str.ofString "data_body", t.2.2), (Str.ofString "name", .bytes c.1), (Str.ofString "body", .bytes c.2)], some (Str.ofString "names", t.1.map D.bytes)⟩ (forBd (stAt (fnAt P1 12) 4)) = .next ⟨[(Str.ofString "data", da), (Str.ofString "chunks", ch), (Str.ofString "fmt_body", (wvStep t c).2.1), (Str.ofString "data_body", (wvStep t c).2.2), (Str.ofString "name", .bytes c.1), (Str.ofString "body", .bytes c.2)], some (Str.ofString "names", (wvStep t c).1.map D.bytes)⟩ := by
    conv in forBd _ => whnf
    unfold C1
    have ho' : (t.1.map D.bytes).length ≤ 1000000 := by rw [List.length_map]; (first | lia | omega)
    cases a1 : (c.1 == [102, 109, 116, 32]) with
    | true =>
      have e2 : wvStep t c = (t.1 ++ [fmtN], .bytes c.2, t.2.2) := by unfold wvStep; rw [if_pos (show c.1 = fmtN from eq_of_beq a1)]
      rw [e2]
      simp +decide only [getR_some, bind_ok, e_const, e_name, c_bytes, m_eq, eqR_some, q_bytes, t_cmp, ch_one, ss_nil, ss_cons, seq_next, s_if, ifO_t, asgO_ok, ofS_some, a_name, s_app, appO_ok, String.reduceEq, decide_false, Bool.and_true, Bool.not_false, beq_self_eq_true, lm_one, bm_Constant, ns_Constant, nl_bytes, sh110, sh111, sh119, sh130, sh135, sh140, s_asgNm, u12_5, u12_7, u12_10, u12_12, a1, ho']
      rw [List.map_append]
      rfl
    | false =>
      have e : ¬ c.1 = fmtN := by intro q; rw [q] at a1; exact absurd a1 (by decide)
      cases a2 : (c.1 == [100, 97, 116, 97]) with
      | true =>
        have e2 : wvStep t c = (t.1 ++ [dataN], t.2.1, .bytes c.2) := by unfold wvStep; rw [if_neg e, if_pos (show c.1 = dataN from eq_of_beq a2)]
        rw [e2]
        simp +decide only [getR_some, bind_ok, e_const, e_name, c_bytes, m_eq, eqR_some, q_bytes, t_cmp, ch_one, ss_nil, ss_cons, seq_next, s_if, ifO_t, ifO_f, asgO_ok, ofS_some, a_name, s_app, appO_ok, String.reduceEq, decide_false, Bool.and_true, Bool.not_false, beq_self_eq_true, lm_one, bm_Constant, ns_Constant, nl_bytes, sh110, sh111, sh120, sh130, sh135, sh139, s_asgNm, u12_5, u12_9, u12_10, u12_12, a1, a2, ho']
        rw [List.map_append]
        rfl
      | false =>
        have e1 : ¬ c.1 = dataN := by intro q; rw [q] at a2; exact absurd a2 (by decide)
        have e2 : wvStep t c = t := by unfold wvStep; rw [if_neg e, if_neg e1]
        rw [e2]
        simp +decide only [getR_some, bind_ok, e_const, e_name, c_bytes, m_eq, eqR_some, q_bytes, t_cmp, ch_one, ss_nil, ss_cons, seq_next, s_if, ifO_f, lm_one, bm_Constant, sh110, sh135, u12_10, a1, a2]
  rw [for_cons, hA, forA_some, hB, forB_next]

theorem wv_stepB (k : Nat) (da ch : D) (t : Wv) (n0 b0 : D) (ht : t.1.length ≤ 1000) (c : Ch) (r : List D) : forO (C1 (k + 1) 12) 94 (forTg (stAt (fnAt P1 12) 4)) (forBd (stAt (fnAt P1 12) 4)) (cD c :: r) ⟨[(Str.ofString "data", da), (Str.ofString "chunks", ch), (Str.ofString "fmt_body", t.2.1), (Str.ofString "data_body", t.2.2), (Str.ofString "name", n0), (Str.ofString "body", b0)], some (Str.ofString "names", t.1.map D.bytes)⟩ = forO (C1 (k + 1) 12) 94 (forTg (stAt (fnAt P1 12) 4)) (forBd (stAt (fnAt P1 12) 4)) r ⟨[(Str.ofString "data", da), (Str.ofString "chunks", ch), (Str.ofString "fmt_body", (wvStep t c).2.1), (Str.ofString "data_body", (wvStep t c).2.2), (Str.ofString "name", .bytes c.1), (Str.ofString "body", .bytes c.2)], some (Str.ofString "names", (wvStep t c).1.map D.bytes)⟩ := by
  have hA : assignD (C1 (k + 1) 12) ⟨[(Str.ofString "data", da), (Str.ofString "chunks", ch), (Str.ofString "fmt_body", t.2.1), (Str.ofString "data_body", t.2.2), (Str.ofString "name", n0), (Str.ofString "body", b0)], some (Str.ofString "names", t.1.map D.bytes)⟩ (forTg (stAt (fnAt P1 12) 4)) (cD c) = some ⟨[(Str.ofString "data", da), (Str.ofString "chunks", ch), (Str.ofString "fmt_body", t.2.1), (Str.ofString "data_body", t.2.2), (Str.ofString "name", .bytes c.1), (Str.ofString "body", .bytes c.2)], some (Str.ofString "names", t.1.map D.bytes)⟩ := by
    conv in forTg _ => whnf
    unfold C1 cD
    simp +decide only [a_tup, st_nil, st_cons, stO_some, nl_bytes, sh124, sh125, sh138, sh142, u12_11, u12_13]
  have hB : execs (C1 (k + 1) 12) 94 ⟨[(Str.ofString "data", da), (Str.ofString "chunks", ch), (Str.ofString "fmt_body", t.2.1), (Str.ofString "data_body", t.2.2), (Str.ofString "name", .bytes c.1), (Str.ofString "body", .bytes c.2)], some (Str.ofString "names", t.1.map D.bytes)⟩ (forBd (stAt (fnAt P1 12) 4)) = .next ⟨[(Str.ofString "data", da), (Str.ofString "chunks", ch), (Str.ofString "fmt_body", (wvStep t c).2.1), (Str.ofString "data_body", (wvStep t c).2.2), (Str.ofString "name", .bytes c.1), (Str.ofString "body", .bytes c.2)], some (Str.ofString "names", (wvStep t c).1.map D.bytes)⟩ := by
    conv in forBd _ => whnf
    unfold C1
    have ho' : (t.1.map D.bytes).length ≤ 1000000 := by rw [List.length_map]; (first | lia | omega)
    cases a1 : (c.1 == [102, 109, 116, 32]) with
    | true =>
      have e2 : wvStep t c = (t.1 ++ [fmtN], .bytes c.2, t.2.2) := by unfold wvStep; rw [if_pos (show c.1 = fmtN from eq_of_beq a1)]
      rw [e2]
      simp +decide only [getR_some, bind_ok, e_const, e_name, c_bytes, m_eq, eqR_some, q_bytes, t_cmp, ch_one, ss_nil, ss_cons, seq_next, s_if, ifO_t, asgO_ok, ofS_some, a_name, s_app, appO_ok, String.reduceEq, decide_false, Bool.and_true, Bool.not_false, beq_self_eq_true, lm_one, bm_Constant, ns_Constant, nl_bytes, sh110, sh111, sh119, sh130, sh135, sh140, s_asgNm, u12_5, u12_7, u12_10, u12_12, a1, ho']
      rw [List.map_append]
      rfl
    | false =>
      have e : ¬ c.1 = fmtN := by intro q; rw [q] at a1; exact absurd a1 (by decide)
      cases a2 : (c.1 == [100, 97, 116, 97]) with
      | true =>
        have e2 : wvStep t c = (t.1 ++ [dataN], t.2.1, .bytes c.2) := by unfold wvStep; rw [if_neg e, if_pos (show c.1 = dataN from eq_of_beq a2)]
        rw [e2]
        simp +decide only [getR_some, bind_ok, e_const, e_name, c_bytes, m_eq, eqR_some, q_bytes, t_cmp, ch_one, ss_nil, ss_cons, seq_next, s_if, ifO_t, ifO_f, asgO_ok, ofS_some, a_name, s_app, appO_ok, String.reduceEq, decide_false, Bool.and_true, Bool.not_false, beq_self_eq_true, lm_one, bm_Constant, ns_Constant, nl_bytes, sh110, sh111, sh120, sh130, sh135, sh139, s_asgNm, u12_5, u12_9, u12_10, u12_12, a1, a2, ho']
        rw [List.map_append]
        rfl
      | false =>
        have e1 : ¬ c.1 = dataN := by intro q; rw [q] at a2; exact absurd a2 (by decide)
        have e2 : wvStep t c = t := by unfold wvStep; rw [if_neg e, if_neg e1]
        rw [e2]
        simp +decide only [getR_some, bind_ok, e_const, e_name, c_bytes, m_eq, eqR_some, q_bytes, t_cmp, ch_one, ss_nil, ss_cons, seq_next, s_if, ifO_f, lm_one, bm_Constant, sh110, sh135, u12_10, a1, a2]
  rw [for_cons, hA, forA_some, hB, forB_next]

theorem wv_len (t : Wv) (c : Ch) : (wvStep t c).1.length ≤ t.1.length + 1 := by
  unfold wvStep
  split
  · simp
  · split <;> simp
theorem wv_loop (k : Nat) (da ch : D) : ∀ (cs : List Ch) (t : Wv) (n0 b0 : D), t.1.length + cs.length ≤ 1000 → ∃ n1 b1, forO (C1 (k + 1) 12) 94 (forTg (stAt (fnAt P1 12) 4)) (forBd (stAt (fnAt P1 12) 4)) (cs.map cD) ⟨[(Str.ofString "data", da), (Str.ofString "chunks", ch), (Str.ofString "fmt_body", t.2.1), (Str.ofString "data_body", t.2.2), (Str.ofString "name", n0), (Str.ofString "body", b0)], some (Str.ofString "names", t.1.map D.bytes)⟩ = .next ⟨[(Str.ofString "data", da), (Str.ofString "chunks", ch), (Str.ofString "fmt_body", (cs.foldl wvStep t).2.1), (Str.ofString "data_body", (cs.foldl wvStep t).2.2), (Str.ofString "name", n1), (Str.ofString "body", b1)], some (Str.ofString "names", (cs.foldl wvStep t).1.map D.bytes)⟩
  | [], t, n0, b0, _ => ⟨n0, b0, by rw [List.map_nil, for_nil]; rfl⟩
  | c :: cs, t, n0, b0, h => by
    rw [List.length_cons] at h
    have hw := wv_len t c
    rw [List.map_cons, wv_stepB k da ch t n0 b0 (by (first | lia | omega)) c]
    exact wv_loop k da ch cs (wvStep t c) _ _ (by (first | lia | omega))
theorem ev_rw_no (k : Nat) (l : List UInt8) (h : Fk Q1 (k + 2) (Str.ofString "read_chunks") [.bytes l] = .raise) : Fk Q1 (k + 3) (Str.ofString "read_wav") [.bytes l] = .raise := by
  rw [Fk_at (fnAt P1 12) (by rw [nat_Q1]; rfl) fnd1_12 ⟨rfl, by simp⟩]
  rw [show (fnAt P1 12).xs = [Str.ofString "data"] from rfl]
  rw [show Q1.fns = fns1 from rfl, show Q1.G = G1 from rfl, show Q1.B = B1 from rfl]
  conv in (fnAt P1 12).body => whnf
  simp +decide only [getR_some, get_n, bind_ok, e_name, e_call, es_nil, es_cons, isF, ss_cons, seq_raise, asgO_raise, Bool.and_true, ns_nil, ns_cons, ns_Name, outR_raise, List.zip_cons_cons, List.zip_nil_right, sh14, s_asgK, u12_0, bb30, u12_19, h]
/-- read_wav, behind the loop -/
theorem ev_rw_go (k : Nat) (l : List UInt8) (cs : List Ch) (hz : cs.length ≤ 900) (h : Fk Q1 (k + 2) (Str.ofString "read_chunks") [.bytes l] = .ok (.lst (cs.map cD))) :
    ∃ rho1, Fk Q1 (k + 3) (Str.ofString "read_wav") [.bytes l] = outR (execs (C1 (k + 2) 12) 95 ⟨(Str.ofString "data", .bytes l) :: (Str.ofString "chunks", .lst (cs.map cD)) :: (Str.ofString "fmt_body", (cs.foldl wvStep ([], .none, .none)).2.1) :: (Str.ofString "data_body", (cs.foldl wvStep ([], .none, .none)).2.2) :: rho1, some (Str.ofString "names", (cs.foldl wvStep ([], .none, .none)).1.map D.bytes)⟩ ((fnAt P1 12).body.drop 5)) := by
  cases cs with
  | nil =>
    refine ⟨[], ?_⟩
    generalize hr : outR (execs (C1 (k + 2) 12) 95 _ ((fnAt P1 12).body.drop 5)) = rr
    rw [Fk_at (fnAt P1 12) (by rw [nat_Q1]; rfl) fnd1_12 ⟨rfl, by simp⟩]
    rw [show (fnAt P1 12).xs = [Str.ofString "data"] from rfl]
    rw [show Q1.fns = fns1 from rfl, show Q1.G = G1 from rfl, show Q1.B = B1 from rfl]
    conv in (fnAt P1 12).body => whnf
    simp +decide only [getR_some, get_n, set_n, bind_ok, e_const, e_name, e_call, es_nil, es_cons, c_none, isF, ss_cons, seq_next, asgO_ok, ofS_some, a_name, s_own, ownO_ok, s_for, forR_ok, i_name, itN_o, String.reduceEq, decide_false, Bool.and_true, Bool.not_false, ns_nil, ns_cons, ns_Name, List.length_nil, nl_none, nls_nil, and_self, List.zip_cons_cons, List.zip_nil_right, sh14, sh107, sh116, sh117, sh118, sh129, sh131, sh139, sh140, s_asgC, s_asgK, u12_0, u12_2, u12_3, u12_5, u12_7, u12_9, bb30, u12_19, h]
    exact hr
  | cons c r =>
    rw [List.length_cons] at hz
    have e0 := wv_stepA (k + 1) (.bytes l) (.lst ((c :: r).map cD)) ([], .none, .none) (by decide) c (r.map cD)
    have hw := wv_len ([], .none, .none) c
    obtain ⟨n1, b1, e⟩ := wv_loop (k + 1) (.bytes l) (.lst ((c :: r).map cD)) r (wvStep ([], .none, .none) c) (.bytes c.1) (.bytes c.2) (by have hw : (wvStep ([], .none, .none) c).1.length ≤ 0 + 1 := hw; (first | lia | omega))
    rw [e] at e0
    refine ⟨[(Str.ofString "name", n1), (Str.ofString "body", b1)], ?_⟩
    generalize hr : outR (execs (C1 (k + 2) 12) 95 _ ((fnAt P1 12).body.drop 5)) = rr
    rw [Fk_at (fnAt P1 12) (by rw [nat_Q1]; rfl) fnd1_12 ⟨rfl, by simp⟩]
    rw [show (fnAt P1 12).xs = [Str.ofString "data"] from rfl]
    rw [show Q1.fns = fns1 from rfl, show Q1.G = G1 from rfl, show Q1.B = B1 from rfl]
    conv in (fnAt P1 12).body => whnf
    simp +decide only [getR_some, get_n, set_n, bind_ok, e_const, e_name, e_call, es_nil, es_cons, c_none, isF, ss_cons, seq_next, asgO_ok, ofS_some, a_name, s_own, ownO_ok, s_for, forR_ok, i_name, itN_o, String.reduceEq, decide_false, Bool.and_true, Bool.not_false, ns_nil, ns_cons, ns_Name, List.length_nil, nl_none, nls_nil, and_self, List.zip_cons_cons, List.zip_nil_right, sh14, sh107, sh116, sh117, sh118, sh129, sh131, sh139, sh140, s_asgC, s_asgK, u12_0, u12_2, u12_3, u12_5, u12_7, u12_9, bb30, u12_19, h]
    refine (congrArg (fun o => outR (seqO o _ _ _)) e0).trans ?_
    exact hr
theorem ev_rw_names (k : Nat) (l : List UInt8) (cs : List Ch) (hz : cs.length ≤ 900) (h : Fk Q1 (k + 2) (Str.ofString "read_chunks") [.bytes l] = .ok (.lst (cs.map cD))) (hne : (cs.foldl wvStep ([], .none, .none)).1 ≠ [fmtN, dataN]) :
    Fk Q1 (k + 3) (Str.ofString "read_wav") [.bytes l] = .raise := by
  obtain ⟨rho1, e⟩ := ev_rw_go k l cs hz h
  rw [e]
  conv in (fnAt P1 12).body.drop 5 => whnf
  unfold C1
  have q := eq_lists (cs.foldl wvStep ([], .none, .none)).1 [fmtN, dataN]
  have q : eqD 4 (.lst ((cs.foldl wvStep ([], .none, .none)).1.map D.bytes)) (.lst [.bytes [102, 109, 116, 32], .bytes [100, 97, 116, 97]]) = some ((cs.foldl wvStep ([], .none, .none)).1 == [fmtN, dataN]) := q
  rw [beq_false_of_ne hne] at q
  generalize (cs.foldl wvStep ([], .none, .none)) = t at q
  simp +decide only [getR_some, bind_ok, e_const, e_name, e_lst, es_nil, es_cons, c_str, c_bytes, m_ne, neR_some, t_cmp, ch_one, ss_cons, seq_raise, s_if, ifO_t, s_raise, rsO_str, Bool.and_true, Bool.not_false, lm_one, ns_Constant, bm_List, List.length_cons, List.length_nil, Nat.reduceAdd, Nat.zero_add, outR_raise, sh136, u12_4, u12_20, q]
theorem ev_rw_fmt (k : Nat) (l f : List UInt8) (db : D) (cs : List Ch) (hz : cs.length ≤ 900) (h : Fk Q1 (k + 2) (Str.ofString "read_chunks") [.bytes l] = .ok (.lst (cs.map cD))) (ht : cs.foldl wvStep ([], .none, .none) = ([fmtN, dataN], .bytes f, db))
    (hf : Fk Q1 (k + 2) (Str.ofString "read_format") [.bytes f] = .raise) : Fk Q1 (k + 3) (Str.ofString "read_wav") [.bytes l] = .raise := by
  obtain ⟨rho1, e⟩ := ev_rw_go k l cs hz h
  rw [e, ht]
  conv in (fnAt P1 12).body.drop 5 => whnf
  unfold C1
  have q : eqD 4 (.lst ([fmtN, dataN].map D.bytes)) (.lst [.bytes [102, 109, 116, 32], .bytes [100, 97, 116, 97]]) = some true := rfl
  generalize ([fmtN, dataN].map D.bytes) = nn at q
  simp +decide only [getR_some, bind_ok, e_const, e_name, e_call, e_lst, es_nil, es_cons, c_bytes, m_ne, neR_some, isF, t_cmp, ch_one, ss_nil, ss_cons, seq_next, seq_raise, s_if, ifO_f, asgO_raise, Bool.and_true, Bool.not_true, lm_one, ns_nil, ns_cons, ns_Name, bm_List, List.length_cons, List.length_nil, Nat.reduceAdd, Nat.zero_add, outR_raise, sh108, sh133, sh136, s_asgK, u12_4, u12_6, bb31, u12_22, q, hf]
theorem ev_rw_ok (k : Nat) (l f d : List UInt8) (c r b : Int) (hc : 1 ≤ c ∧ c ≤ 65535) (hb : 0 < c * b / 8) (hd : d.length ≤ line) (cs : List Ch) (hz : cs.length ≤ 900) (h : Fk Q1 (k + 2) (Str.ofString "read_chunks") [.bytes l] = .ok (.lst (cs.map cD))) (ht : cs.foldl wvStep ([], .none, .none) = ([fmtN, dataN], .bytes f, .bytes d))
    (hf : Fk Q1 (k + 2) (Str.ofString "read_format") [.bytes f] = .ok (.tup [.int c, .int r, .int b])) : Fk Q1 (k + 3) (Str.ofString "read_wav") [.bytes l] = if (d.length : Int) % (c * b / 8) = 0 then .ok (.tup [.tup [.int c, .int r, .int b], .bytes d]) else .raise := by
  obtain ⟨rho1, e⟩ := ev_rw_go k l cs hz h
  rw [e, ht]
  conv in (fnAt P1 12).body.drop 5 => whnf
  unfold C1
  have q : eqD 4 (.lst ([fmtN, dataN].map D.bytes)) (.lst [.bytes [102, 109, 116, 32], .bytes [100, 97, 116, 97]]) = some true := rfl
  generalize ([fmtN, dataN].map D.bytes) = nn at q
  have z1 : -big < c ∧ c < big := in_big (by (first | lia | omega))
  have lp : ∀ v w, look (put (put rho1 (Str.ofString "sound") v) (Str.ofString "frame") w) (Str.ofString "frame") = some w := fun v w => by rw [look_put, if_pos rfl]
  have lq : ∀ v w, look (put (put rho1 (Str.ofString "sound") v) (Str.ofString "frame") w) (Str.ofString "sound") = some v := fun v w => by rw [look_put, if_neg (by rw [str_eq]; decide), look_put, if_pos rfl]
  have lr : ∀ v, look (put rho1 (Str.ofString "sound") v) (Str.ofString "sound") = some v := fun v => by rw [look_put, if_pos rfl]
  cases a2 : ((d.length : Int) % (c * b / 8) == 0) with
  | true =>
    simp +decide only [getR_some, bind_ok, e_const, e_name, e_bin, e_call, e_subC, e_tup, e_lst, es_nil, es_cons, c_int, c_bytes, b_mul, b_div, b_mod, m_ne, neR_some, q_int, isB, isF, k_len, len_b, t_cmp, ch_one, ss_nil, ss_cons, seq_next, seq_ret, s_if, ifO_f, s_ret, retO_ok, asgO_ok, ofS_some, a_name, reduceIte, Bool.and_true, Bool.not_true, lm_one, ns_nil, ns_cons, ns_Name, bm_Constant, bm_List, List.length_cons, List.length_nil, Nat.reduceAdd, Nat.zero_add, nl_int, nl_tup, nls_nil, nls_cons, idxR_some, x_tup, outR_ret, and_self, true_or, Int.reduceLE, Int.reduceLT, Int.reduceToNat, sh132, sh133, sh134, sh136, sh137, sh141, sh143, s_asgB, s_asgK, u12_4, u12_6, u12_8, u12_14, u12_15, u12_16, u12_17, bb31, u12_22, bb27, u12_24, look_str, put_str, q, hf, z1, hb, hd, a2, lp, lq, lr, List.getElem?_cons_zero, List.getElem?_cons_succ]
    rw [if_pos (eq_of_beq a2)]
  | false =>
    simp +decide only [getR_some, bind_ok, e_const, e_name, e_bin, e_call, e_subC, e_lst, es_nil, es_cons, c_int, c_str, c_bytes, b_mul, b_div, b_mod, m_ne, neR_some, q_int, isB, isF, k_len, len_b, t_cmp, ch_one, ss_nil, ss_cons, seq_next, seq_raise, s_if, ifO_t, ifO_f, asgO_ok, ofS_some, a_name, s_raise, rsO_str, reduceIte, Bool.and_true, Bool.not_true, Bool.not_false, lm_one, ns_nil, ns_cons, ns_Name, bm_Constant, ns_Constant, bm_List, List.length_cons, List.length_nil, Nat.reduceAdd, Nat.zero_add, nl_int, nl_tup, nls_nil, nls_cons, idxR_some, x_tup, outR_raise, and_self, true_or, Int.reduceLE, Int.reduceLT, Int.reduceToNat, sh132, sh133, sh134, sh136, sh137, sh141, sh143, s_asgB, s_asgK, u12_4, u12_6, u12_8, u12_14, u12_15, u12_16, u12_17, u12_20, bb31, u12_22, bb27, u12_24, look_str, put_str, q, hf, z1, hb, hd, a2, lp, lr, List.getElem?_cons_zero, List.getElem?_cons_succ]
    rw [if_neg (by simpa using a2)]
end
end Mine
namespace Mine
section
open PySem

theorem byte_toNat (n : Int) (h : 0 ≤ n ∧ n < 256) : ((byte n).toNat : Int) = n := by
  unfold byte
  have : n.toNat.toUInt8.toNat = n.toNat % 256 := by simp
  rw [this]
  (first | lia | omega)
theorem rd_app_left (a b : List UInt8) (j : Nat) (h : j < a.length) : rd (a ++ b) j = rd a j := by
  unfold rd
  rw [List.getD_eq_getElem?_getD, List.getD_eq_getElem?_getD, List.getElem?_append_left h]
theorem rd_app_right (a b : List UInt8) (j : Nat) : rd (a ++ b) (a.length + j) = rd b j := by
  unfold rd
  rw [List.getD_eq_getElem?_getD, List.getD_eq_getElem?_getD, List.getElem?_append_right (Nat.le_add_right _ _), Nat.add_sub_cancel_left]
theorem u4_app_right (a b : List UInt8) (j : Nat) : u4 (a ++ b) (a.length + j) = u4 b j := by
  unfold u4
  rw [rd_app_right, Nat.add_assoc, rd_app_right, Nat.add_assoc, rd_app_right, Nat.add_assoc, rd_app_right]
theorem u4_app_left (a b : List UInt8) (j : Nat) (h : j + 4 ≤ a.length) : u4 (a ++ b) j = u4 a j := by
  unfold u4
  rw [rd_app_left _ _ _ (by (first | lia | omega)), rd_app_left _ _ _ (by (first | lia | omega)), rd_app_left _ _ _ (by (first | lia | omega)), rd_app_left _ _ _ (by (first | lia | omega))]
theorem u4_le4 (n : Int) (h : 0 ≤ n ∧ n < 4294967296) (b : List UInt8) : u4 (le4 n ++ b) 0 = n := by
  rw [u4_app_left _ _ _ (by rw [le4_len]; decide)]
  show ((byte (n % 256)).toNat : Int) + 256 * ((byte (n / 256 % 256)).toNat : Int) + 65536 * ((byte (n / 65536 % 256)).toNat : Int) + 16777216 * ((byte (n / 16777216 % 256)).toNat : Int) = n
  rw [byte_toNat _ (mod_in _), byte_toNat _ (mod_in _), byte_toNat _ (mod_in _), byte_toNat _ (mod_in _)]
  (first | lia | omega)
/-- .. of any int -/
theorem u4_le4' (n : Int) (b : List UInt8) : u4 (le4 n ++ b) 0 = n % 4294967296 := by
  rw [u4_app_left _ _ _ (by rw [le4_len]; decide)]
  show ((byte (n % 256)).toNat : Int) + 256 * ((byte (n / 256 % 256)).toNat : Int) + 65536 * ((byte (n / 65536 % 256)).toNat : Int) + 16777216 * ((byte (n / 16777216 % 256)).toNat : Int) = n % 4294967296
  rw [byte_toNat _ (mod_in _), byte_toNat _ (mod_in _), byte_toNat _ (mod_in _), byte_toNat _ (mod_in _)]
  (first | lia | omega)
/-! one chunk, read -/
noncomputable def Good (c : Ch) : Prop := c.1.length = 4 ∧ c.2.length < 16777216
theorem enc_size (d : UInt8) (c : Ch) (h : Good c) (rest : List UInt8) : u4 (encC d c ++ rest) 4 = c.2.length := by
  have e : encC d c ++ rest = c.1 ++ (le4 c.2.length ++ (c.2 ++ (if c.2.length % 2 = 1 then [d] else []) ++ rest)) := by
    unfold encC
    simp only [List.append_assoc]
  rw [e]
  have := u4_app_right c.1 (le4 c.2.length ++ (c.2 ++ (if c.2.length % 2 = 1 then [d] else []) ++ rest)) 0
  rw [h.1] at this
  rw [this, u4_le4 _ (by have := h.2; (first | lia | omega))]
theorem enc_pad (d : UInt8) (c : Ch) (h : Good c) (ho : c.2.length % 2 = 1) (rest : List UInt8) : rd (encC d c ++ rest) (8 + c.2.length) = d.toNat := by
  have e : encC d c ++ rest = (c.1 ++ le4 c.2.length ++ c.2) ++ ([d] ++ rest) := by
    unfold encC
    rw [if_pos ho]
    simp only [List.append_assoc]
  have hlen : (c.1 ++ le4 c.2.length ++ c.2).length = 8 + c.2.length := by
    rw [List.length_append, List.length_append, le4_len, h.1]
  rw [e]
  have := rd_app_right (c.1 ++ le4 c.2.length ++ c.2) ([d] ++ rest) 0
  rw [hlen, Nat.add_zero] at this
  rw [this]
  rfl
theorem enc_len (d : UInt8) (c : Ch) (h : Good c) : (encC d c).length = 8 + c.2.length + c.2.length % 2 := by
  rw [encC_len, h.1]
theorem pr_step (f : Nat) (r : List UInt8) : pr (f + 1) r = if r.length = 0 then some [] else if r.length < 8 then none else
    if r.length < 8 + (u4 r 4).toNat + (u4 r 4).toNat % 2 then none else
    if (u4 r 4).toNat % 2 = 1 ∧ rd r (8 + (u4 r 4).toNat) ≠ 0 then none else
    (pr f (r.drop (8 + (u4 r 4).toNat + (u4 r 4).toNat % 2))).map ((r.take 4, (r.drop 8).take (u4 r 4).toNat) :: ·) := rfl
theorem pr_chunk (f : Nat) (c : Ch) (h : Good c) (rest : List UInt8) : pr (f + 1) (encC 0 c ++ rest) = (pr f rest).map (c :: ·) := by
  have hl := enc_len 0 c h
  have hll : (encC 0 c ++ rest).length = 8 + c.2.length + c.2.length % 2 + rest.length := by rw [List.length_append, hl]
  rw [pr_step, enc_size 0 c h, Int.toNat_natCast, hll, if_neg (by (first | lia | omega)), if_neg (by (first | lia | omega)), if_neg (by (first | lia | omega)), if_neg]
  · have e1 : (encC 0 c ++ rest).take 4 = c.1 := by
      unfold encC
      have h4 := h.1
      rw [List.append_assoc, List.append_assoc, List.append_assoc, List.take_append_of_le_length (by (first | lia | omega)), List.take_of_length_le (by (first | lia | omega))]
    have e2 : ((encC 0 c ++ rest).drop 8).take c.2.length = c.2 := by
      have e : encC 0 c ++ rest = (c.1 ++ le4 c.2.length) ++ (c.2 ++ ((if c.2.length % 2 = 1 then [0] else []) ++ rest)) := by
        unfold encC
        simp only [List.append_assoc]
      have hlen : (c.1 ++ le4 c.2.length).length = 8 := by rw [List.length_append, le4_len, h.1]
      rw [e, ← hlen, List.drop_left, List.take_left]
    have e3 : (encC 0 c ++ rest).drop (8 + c.2.length + c.2.length % 2) = rest := by rw [← hl, List.drop_left]
    rw [e1, e2, e3]
  · rintro ⟨h1, h2⟩
    exact h2 (enc_pad 0 c h h1 rest)
theorem pr_encs : ∀ (cs : List Ch) (f : Nat), (∀ c ∈ cs, Good c) → cs.length < f → pr f (encs cs) = some cs
  | _, 0, _, h => by (first | lia | omega)
  | [], f + 1, _, _ => rfl
  | c :: cs, f + 1, h, hf => by
    rw [List.length_cons] at hf
    show pr (f + 1) (encC 0 c ++ encs cs) = _
    rw [pr_chunk f c (h c List.mem_cons_self), pr_encs cs f (fun x hx => h x (List.mem_cons_of_mem _ hx)) (by (first | lia | omega))]
    rfl
/-- a part of a text of chunks -/
theorem pr_prefix : ∀ (cs : List Ch) (f n : Nat), (∀ c ∈ cs, Good c) → pr f ((encs cs).take n) = none ∨ ∃ j, j ≤ cs.length ∧ (encs cs).take n = encs (cs.take j)
  | _, 0, _, _ => .inl rfl
  | [], f + 1, n, _ => .inr ⟨0, Nat.le_refl _, by show List.take n [] = _; rw [List.take_nil]; rfl⟩
  | c :: cs, f + 1, n, h => by
    have hc := h c List.mem_cons_self
    have hl := enc_len 0 c hc
    have he : encs (c :: cs) = encC 0 c ++ encs cs := rfl
    rw [he]
    by_cases h0 : n = 0
    · exact .inr ⟨0, Nat.zero_le _, by rw [h0, List.take_zero, List.take_zero]; rfl⟩
    by_cases hn : n < (encC 0 c).length
    · left
      have e1 : (encC 0 c ++ encs cs).take n = (encC 0 c).take n := List.take_append_of_le_length (by (first | lia | omega))
      have e2 : ((encC 0 c).take n).length = n := by rw [List.length_take]; (first | lia | omega)
      rw [e1, pr_step, e2, if_neg h0]
      by_cases h8 : n < 8
      · rw [if_pos h8]
      · rw [if_neg h8]
        have e3 : u4 ((encC 0 c).take n) 4 = c.2.length := by
          have q := enc_size 0 c hc []
          rw [List.append_nil] at q
          rw [← q]
          have q2 := u4_app_left ((encC 0 c).take n) ((encC 0 c).drop n) 4 (by rw [e2]; (first | lia | omega))
          rw [List.take_append_drop] at q2
          exact q2.symm
        rw [e3, Int.toNat_natCast, if_pos (by (first | lia | omega))]
    · have e1 : (encC 0 c ++ encs cs).take n = encC 0 c ++ (encs cs).take (n - (encC 0 c).length) := by rw [List.take_append, List.take_of_length_le (by (first | lia | omega))]
      rw [e1, pr_chunk f c hc]
      rcases pr_prefix cs f (n - (encC 0 c).length) (fun x hx => h x (List.mem_cons_of_mem _ hx)) with q | ⟨j, hj, q⟩
      · left; rw [q]; rfl
      · exact .inr ⟨j + 1, by rw [List.length_cons]; (first | lia | omega), by rw [q]; rfl⟩
/-- .. and a few bytes behind it -/
theorem pr_junk : ∀ (cs : List Ch) (f : Nat) (j : List UInt8), (∀ c ∈ cs, Good c) → 0 < j.length → j.length < 8 → pr f (encs cs ++ j) = none
  | _, 0, _, _, _, _ => rfl
  | [], f + 1, j, _, h0, h8 => by
    show pr (f + 1) j = none
    rw [pr_step, if_neg (by (first | lia | omega)), if_pos h8]
  | c :: cs, f + 1, j, h, h0, h8 => by
    show pr (f + 1) (encC 0 c ++ encs cs ++ j) = none
    rw [List.append_assoc, pr_chunk f c (h c List.mem_cons_self), pr_junk cs f j (fun x hx => h x (List.mem_cons_of_mem _ hx)) h0 h8]
    rfl
/-- a padding byte that is not zero -/
theorem pr_dirt (spot dirt : Int) (hd : 0 < dirt ∧ dirt < 256) : ∀ (cs : List Ch) (f : Nat) (a : Int), (∀ c ∈ cs, Good c) → pr f (encF spot dirt a cs) = none ∨ encF spot dirt a cs = encs cs
  | _, 0, _, _ => .inl rfl
  | [], f + 1, a, _ => .inr rfl
  | c :: cs, f + 1, a, h => by
    have hc := h c List.mem_cons_self
    show pr (f + 1) (encC (byte (if a = spot then dirt else 0)) c ++ encF spot dirt (a + 1) cs) = none ∨ encC (byte (if a = spot then dirt else 0)) c ++ encF spot dirt (a + 1) cs = encC 0 c ++ encs cs
    by_cases ho : a = spot ∧ c.2.length % 2 = 1
    · left
      have hb : byte (if a = spot then dirt else 0) = byte dirt := by rw [if_pos ho.1]
      rw [hb]
      have hl := enc_len (byte dirt) c hc
      have hll : (encC (byte dirt) c ++ encF spot dirt (a + 1) cs).length = 8 + c.2.length + c.2.length % 2 + (encF spot dirt (a + 1) cs).length := by rw [List.length_append, hl]
      rw [pr_step, enc_size (byte dirt) c hc, Int.toNat_natCast, hll, if_neg (by (first | lia | omega)), if_neg (by (first | lia | omega)), if_neg (by (first | lia | omega)), if_pos]
      refine ⟨ho.2, ?_⟩
      rw [enc_pad (byte dirt) c hc ho.2, byte_toNat dirt (by (first | lia | omega))]
      (first | lia | omega)
    · have e1 : encC (byte (if a = spot then dirt else 0)) c = encC 0 c := by
        by_cases h1 : a = spot
        · unfold encC
          have h2 : ¬ c.2.length % 2 = 1 := fun q => ho ⟨h1, q⟩
          rw [if_neg h2, if_neg h2]
        · rw [if_neg h1]; rfl
      rw [e1, pr_chunk f c hc]
      rcases pr_dirt spot dirt hd cs f (a + 1) (fun x hx => h x (List.mem_cons_of_mem _ hx)) with q | q
      · left; rw [q]; rfl
      · right; rw [q]
/-- a size that is too large -/
theorem pr_large (f : Nat) (r : List UInt8) (h0 : r.length ≠ 0) (h : (r.length : Int) < u4 r 4) : pr f r = none := by
  cases f with
  | zero => rfl
  | succ f =>
    rw [pr_step, if_neg h0]
    by_cases h8 : r.length < 8
    · rw [if_pos h8]
    · rw [if_neg h8, if_pos (by (first | lia | omega))]

/-! the head -/
theorem plain_len (cs : List Ch) : (plain cs).length = 12 + (encs cs).length := by
  unfold plain
  rw [List.length_append, List.length_append, List.length_append, le4_len, riff_len, wave_len]
  (first | lia | omega)
noncomputable def mk (n : Int) (w e : List UInt8) : List UInt8 := riff ++ le4 n ++ (w ++ e)
theorem mk_drop (n : Int) (e : List UInt8) : (mk n wave e).drop 12 = e := rfl
theorem mk_riff (n : Int) (e : List UInt8) (h : n % 4294967296 = 4 + e.length) : RIFF (mk n wave e) := by
  have hl : (mk n wave e).length = 12 + e.length := by
    unfold mk
    rw [List.length_append, List.length_append, List.length_append, le4_len, riff_len, wave_len]
    (first | lia | omega)
  refine ⟨by rw [hl]; (first | lia | omega), rfl, rfl, ?_⟩
  have e1 : mk n wave e = riff ++ (le4 n ++ (wave ++ e)) := by unfold mk; rw [List.append_assoc]
  have := u4_app_right riff (le4 n ++ (wave ++ e)) 0
  rw [riff_len] at this
  rw [hl, e1, this, u4_le4', h]
  (first | lia | omega)
theorem ev_rc_mk (k : Nat) (n : Int) (e : List UInt8) (h : n % 4294967296 = 4 + e.length) (hz : e.length ≤ 400) (cs : List Ch) (hc : ∀ c ∈ cs, Good c) (he : e = encs cs) (hcz : cs.length < 450) : Fk Q1 (k + 2) (Str.ofString "read_chunks") [.bytes (mk n wave e)] = .ok (.lst (cs.map cD)) := by
  have hl : (mk n wave e).length = 12 + e.length := by
    unfold mk
    rw [List.length_append, List.length_append, List.length_append, le4_len, riff_len, wave_len]
    (first | lia | omega)
  have q := pr_encs cs 500 hc (by (first | lia | omega))
  rcases ev_rc k (mk n wave e) (by (first | lia | omega)) (mk_riff n e h) with ⟨b1, b2⟩ | ⟨ds, b1, b2⟩
  · rw [mk_drop, he, q] at b1; cases b1
  · rw [mk_drop, he, q] at b1; cases b1; exact b2
theorem ev_rc_no (k : Nat) (l : List UInt8) (hl : l.length ≤ 450) (h : RIFF l → pr 500 (l.drop 12) = none) : Fk Q1 (k + 2) (Str.ofString "read_chunks") [.bytes l] = .raise := by
  by_cases hr : RIFF l
  · rcases ev_rc k l hl hr with ⟨b1, b2⟩ | ⟨ds, b1, b2⟩
    · exact b2
    · rw [h hr] at b1; cases b1
  · exact ev_rc_head k l (by (first | lia | omega)) hr
end
end Mine
namespace Mine
section
open PySem

/-- what is shown is a run of the chunks from the first, or is refused -/
noncomputable def Dis (twin : List Ch) (shown : List UInt8) : Prop :=
  (∃ n, n ≤ twin.length ∧ shown = plain (twin.take n)) ∨ ∀ k, Fk Q1 (k + 2) (Str.ofString "read_chunks") [.bytes shown] = .raise

theorem plain_mk (cs : List Ch) : plain cs = mk (4 + (encs cs).length) wave (encs cs) := rfl
theorem plainF_mk (spot dirt : Int) (cs : List Ch) : plainF spot dirt cs = mk (4 + (encF spot dirt 0 cs).length) wave (encF spot dirt 0 cs) := rfl
theorem mk_len (n : Int) (e : List UInt8) : (mk n wave e).length = 12 + e.length := by
  unfold mk
  rw [List.length_append, List.length_append, List.length_append, le4_len, riff_len, wave_len]
  (first | lia | omega)

theorem dis_dirt (twin : List Ch) (spot dirt : Int) (hd : 0 < dirt ∧ dirt < 256) (h : ∀ c ∈ twin, Good c) (hz : (encs twin).length ≤ 400) : Dis twin (plainF spot dirt twin) := by
  rcases pr_dirt spot dirt hd twin 500 0 h with q | q
  · right
    intro k
    refine ev_rc_no k _ ?_ fun _ => ?_
    · rw [plainF_mk, mk_len, encF_len]; (first | lia | omega)
    · rw [plainF_mk, mk_drop]; exact q
  · left
    refine ⟨twin.length, Nat.le_refl _, ?_⟩
    rw [List.take_length, plainF_mk, q]
    rfl

noncomputable def junk : List UInt8 := [49, 50, 51, 52, 53, 54, 55]
theorem dis_cut (twin : List Ch) (keep : Nat) (n : Int) (hn : n = (keep : Int) - 8) (h : ∀ c ∈ twin, Good c) (hz : (encs twin).length ≤ 400) (hk : keep ≤ (encs twin).length + 19) : Dis twin ((mk n wave (encs twin ++ junk)).take keep) := by
  have hjl : junk.length = 7 := rfl
  have hwl : (mk n wave (encs twin ++ junk)).length = (encs twin).length + 19 := by rw [mk_len, List.length_append, hjl]; (first | lia | omega)
  have hsl : ((mk n wave (encs twin ++ junk)).take keep).length = keep := by rw [List.length_take, hwl]; (first | lia | omega)
  by_cases h12 : keep < 12
  · right
    intro k
    exact ev_rc_no k _ (by (first | lia | omega)) fun r => absurd r.len (by (first | lia | omega))
  · obtain ⟨m, rfl⟩ : ∃ m, keep = 12 + m := ⟨keep - 12, by (first | lia | omega)⟩
    have e0 : (mk n wave (encs twin ++ junk)).take (12 + m) = mk n wave ((encs twin ++ junk).take m) := by
      have e1 : ∀ x, mk n wave x = (riff ++ le4 n ++ wave) ++ x := fun x => by unfold mk; simp only [List.append_assoc]
      have e2 : (riff ++ le4 n ++ wave).length = 12 := rfl
      rw [e1, e1, List.take_append, e2, Nat.add_sub_cancel_left, List.take_of_length_le (by rw [e2]; (first | lia | omega))]
    rw [e0]
    by_cases hm : m ≤ (encs twin).length
    · rw [List.take_append_of_le_length hm]
      rcases pr_prefix twin 500 m h with q | ⟨j, hj, q⟩
      · right
        intro k
        refine ev_rc_no k _ ?_ fun _ => ?_
        · rw [mk_len, List.length_take]; (first | lia | omega)
        · rw [mk_drop]; exact q
      · left
        refine ⟨j, hj, ?_⟩
        rw [q, plain_mk]
        have hq := congrArg List.length q
        rw [List.length_take, Nat.min_eq_left hm] at hq
        rw [hn, ← hq]
        congr 1
        (first | lia | omega)
    · right
      intro k
      refine ev_rc_no k _ ?_ fun _ => ?_
      · rw [mk_len, List.length_take, List.length_append, hjl]; (first | lia | omega)
      · rw [mk_drop, List.take_append, List.take_of_length_le (by (first | lia | omega))]
        exact pr_junk twin 500 _ h (by rw [List.length_take, hjl]; (first | lia | omega)) (by rw [List.length_take, hjl]; (first | lia | omega))

/-! one byte turned -/
noncomputable def turned (l : List UInt8) (p : Nat) (x : UInt8) : List UInt8 := l.take p ++ [x] ++ l.drop (p + 1)
theorem turned_len (l : List UInt8) (p : Nat) (x : UInt8) (h : p < l.length) : (turned l p x).length = l.length := by
  unfold turned
  rw [List.length_append, List.length_append, List.length_take, List.length_drop]
  show min p l.length + 1 + _ = _
  (first | lia | omega)
theorem turned_at (l : List UInt8) (p : Nat) (x : UInt8) (h : p < l.length) : rd (turned l p x) p = x.toNat := by
  unfold turned
  have hl : (l.take p).length = p := by rw [List.length_take]; (first | lia | omega)
  have := rd_app_right (l.take p) ([x] ++ l.drop (p + 1)) 0
  rw [hl, ← List.append_assoc] at this
  exact this
theorem turned_off (l : List UInt8) (p j : Nat) (x : UInt8) (h : p < l.length) (hj : j ≠ p) : rd (turned l p x) j = rd l j := by
  have hl : (l.take p).length = p := by rw [List.length_take]; (first | lia | omega)
  have e : l = l.take p ++ ([l[p]] ++ l.drop (p + 1)) := by
    conv => lhs; rw [← List.take_append_drop p l, List.drop_eq_getElem_cons h]
    rfl
  rcases Nat.lt_or_ge j p with q | q
  · unfold turned
    rw [List.append_assoc, rd_app_left _ _ _ (by (first | lia | omega))]
    conv => rhs; rw [e]
    rw [rd_app_left _ _ _ (by (first | lia | omega))]
  · obtain ⟨i, rfl⟩ : ∃ i, j = p + (1 + i) := ⟨j - p - 1, by (first | lia | omega)⟩
    unfold turned
    rw [List.append_assoc]
    conv => rhs; rw [e]
    have a1 := rd_app_right (l.take p) ([x] ++ l.drop (p + 1)) (1 + i)
    have a2 := rd_app_right (l.take p) ([l[p]] ++ l.drop (p + 1)) (1 + i)
    rw [hl] at a1 a2
    rw [a1, a2, show (1 + i) = ([x] : List UInt8).length + i from rfl, rd_app_right, show ([x] : List UInt8).length + i = ([l[p]] : List UInt8).length + i from rfl, rd_app_right]
theorem rd_of_take (l m : List UInt8) (a n j : Nat) (h : (l.take n).drop a = m) (hj : a + j < n) (hl : n ≤ l.length) : rd l (a + j) = rd m j := by
  rw [← h, rd_drop]
  have := rd_app_left (l.take n) (l.drop n) (a + j) (by rw [List.length_take]; (first | lia | omega))
  rw [List.take_append_drop] at this
  exact this

theorem u4_at16 (l : List UInt8) : u4 l 16 = rd l 16 + 256 * rd l 17 + 65536 * rd l 18 + 16777216 * rd l 19 := rfl
theorem addR {a b c : Int} (h : a + c = b + c) : a = b := Int.add_left_cancel (by rw [Int.add_comm c a, Int.add_comm c b, h])
section
variable {l : List UInt8} {p : Nat} {x : UInt8} (hl : p < l.length)
include hl
theorem tu2_off (j : Nat) (h : p < j ∨ j + 2 ≤ p) : u2 (turned l p x) j = u2 l j := by
  unfold u2
  rw [turned_off l p j x hl (by (first | lia | omega)), turned_off l p (j + 1) x hl (by (first | lia | omega))]
theorem tu4_off (j : Nat) (h : p < j ∨ j + 4 ≤ p) : u4 (turned l p x) j = u4 l j := by
  have o : ∀ i, i < 4 → rd (turned l p x) (j + i) = rd l (j + i) := fun i hi => turned_off l p (j + i) x hl (by (first | lia | omega))
  have o0 : rd (turned l p x) j = rd l j := o 0 (by decide)
  unfold u4
  rw [o0, o 1 (by decide), o 2 (by decide), o 3 (by decide)]
theorem tu2_hit (hx : (x.toNat : Int) ≠ rd l p) (j : Nat) (h : j ≤ p ∧ p < j + 2) : u2 (turned l p x) j ≠ u2 l j := by
  intro e
  unfold u2 at e
  have hp : p = j ∨ p = j + 1 := by (first | lia | omega)
  rcases hp with rfl | rfl
  · rw [turned_at _ _ _ hl, turned_off _ _ (p + 1) _ hl (Nat.succ_ne_self p)] at e
    exact hx (addR e)
  · rw [turned_at _ _ _ hl, turned_off _ _ j _ hl (Nat.ne_of_lt (Nat.lt_succ_self j))] at e
    exact hx (Int.eq_of_mul_eq_mul_left (by decide) (Int.add_left_cancel e))
theorem tu4_hit (hx : (x.toNat : Int) ≠ rd l p) (j : Nat) (h : j ≤ p ∧ p < j + 4) : u4 (turned l p x) j ≠ u4 l j := by
  intro e
  unfold u4 at e
  have o : ∀ i, i ≠ p → rd (turned l p x) i = rd l i := fun i hi => turned_off l p i x hl hi
  have ha := turned_at l p x hl
  have hp : p = j ∨ p = j + 1 ∨ p = j + 2 ∨ p = j + 3 := by (first | lia | omega)
  have ne : ∀ {a b : Nat}, a ≠ b → j + a ≠ j + b := fun h e => h (Nat.add_left_cancel e)
  rcases hp with rfl | rfl | rfl | rfl
  · rw [ha, o (p + 1) (ne (b := 0) (by decide)), o (p + 2) (ne (b := 0) (by decide)), o (p + 3) (ne (b := 0) (by decide))] at e
    exact hx (addR (addR (addR e)))
  · rw [ha, o j (ne (a := 0) (by decide)), o (j + 2) (ne (by decide)), o (j + 3) (ne (by decide))] at e
    exact hx (Int.eq_of_mul_eq_mul_left (by decide) (Int.add_left_cancel (addR (addR e))))
  · rw [ha, o j (ne (a := 0) (by decide)), o (j + 1) (ne (by decide)), o (j + 3) (ne (by decide))] at e
    exact hx (Int.eq_of_mul_eq_mul_left (by decide) (Int.add_left_cancel (addR e)))
  · rw [ha, o j (ne (a := 0) (by decide)), o (j + 1) (ne (by decide)), o (j + 2) (ne (by decide))] at e
    exact hx (Int.eq_of_mul_eq_mul_left (by decide) (Int.add_left_cancel e))
end
theorem big_turn {l : List UInt8} {p : Nat} {x : UInt8} (hl : p < l.length) (h1 : 17 ≤ p) (h2 : p ≤ 19) (s0 : u4 l 16 < 256) (hx : (x.toNat : Int) ≠ rd l p) : 256 ≤ u4 (turned l p x) 16 := by
  have hat := turned_at l p x hl
  have hoff := fun j hj => turned_off l p j x hl hj
  have b0 := rd_in l 16
  have b1 := rd_in l 17
  have b2 := rd_in l 18
  have b3 := rd_in l 19
  rw [u4_at16] at s0 ⊢
  obtain rfl | rfl | rfl : p = 17 ∨ p = 18 ∨ p = 19 := by clear s0 hx b0 b1 b2 b3 hl hat hoff; (first | lia | omega)
  · rw [hat, hoff 16 (by decide), hoff 18 (by decide), hoff 19 (by decide)]; (first | lia | omega)
  · rw [hat, hoff 16 (by decide), hoff 17 (by decide), hoff 19 (by decide)]; (first | lia | omega)
  · rw [hat, hoff 16 (by decide), hoff 17 (by decide), hoff 18 (by decide)]; (first | lia | omega)
theorem dis_turned (twin : List Ch) (p : Nat) (x : UInt8) (h : ∀ c ∈ twin, Good c) (hz : (encs twin).length < 200) (hp : p < (plain twin).length) (hp2 : p < 12 ∨ (17 ≤ p ∧ p ≤ 19)) (hx : (x.toNat : Int) ≠ rd (plain twin) p) : Dis twin (turned (plain twin) p x) := by
  right
  intro k
  have hlen := turned_len (plain twin) p x hp
  have hpl := plain_len twin
  have R0 : RIFF (plain twin) := by rw [plain_mk]; exact mk_riff _ _ (by (first | lia | omega))
  have hat := turned_at (plain twin) p x hp
  have hoff := fun j hj => turned_off (plain twin) p j x hp hj
  refine ev_rc_no k _ (by (first | lia | omega)) fun r => ?_
  rcases hp2 with hp2 | ⟨hp2, hp3⟩
  · exfalso
    have hlr := r.len
    have hl0 := R0.len
    by_cases h4 : p < 4
    · have a1 := rd_of_take (turned (plain twin) p x) riff 0 4 p (by rw [List.drop_zero]; exact r.riff) (by (first | lia | omega)) (by (first | lia | omega))
      have a2 := rd_of_take (plain twin) riff 0 4 p (by rw [List.drop_zero]; exact R0.riff) (by (first | lia | omega)) (by (first | lia | omega))
      rw [Nat.zero_add] at a1 a2
      rw [hat] at a1
      rw [a2] at hx
      exact hx a1
    · by_cases h8 : p < 8
      · have a1 := r.size
        have a2 := R0.size
        rw [hlen] at a1
        exact tu4_hit hp hx 4 ⟨Nat.le_of_not_lt h4, h8⟩ (a1.trans a2.symm)
      · have a1 := rd_of_take (turned (plain twin) p x) wave 8 12 (p - 8) r.wave (by (first | lia | omega)) (by (first | lia | omega))
        have a2 := rd_of_take (plain twin) wave 8 12 (p - 8) R0.wave (by (first | lia | omega)) (by (first | lia | omega))
        rw [show 8 + (p - 8) = p by (first | lia | omega)] at a1 a2
        rw [hat] at a1
        rw [a2] at hx
        exact hx a1
  · cases twin with
    | nil => rw [hpl] at hp; exact absurd hp (by show ¬ p < 12 + 0; (first | lia | omega))
    | cons c cs =>
      have hc := h c List.mem_cons_self
      have hcl : c.2.length < 256 := by
        have : (encs (c :: cs)).length = (encC 0 c).length + (encs cs).length := by simp [encs]
        rw [this, enc_len 0 c hc] at hz
        (first | lia | omega)
      have s0 : u4 (plain (c :: cs)) 16 = c.2.length := by
        have q := enc_size 0 c hc (encs cs)
        have q2 := u4_drop (plain (c :: cs)) 12 4
        rw [plain_mk, mk_drop] at q2
        rw [← q]
        exact q2.symm
      refine pr_large _ _ (by rw [List.length_drop]; (first | lia | omega)) ?_
      rw [u4_drop, List.length_drop, hlen, hpl]
      have x0 := big_turn hp hp2 hp3 (by rw [s0]; exact Int.ofNat_lt.mpr hcl) hx
      show _ < u4 (turned (plain (c :: cs)) p x) 16
      refine Int.lt_of_lt_of_le ?_ x0
      (first | lia | omega)
end
end Mine
namespace Mine
section
open PySem

section
variable (c r b f : Int) (ext : List UInt8)
theorem hd_u0 : u2 (hd c r b f ++ ext) 0 = 1 := rfl
theorem hd_u2 (h : 0 ≤ c ∧ c < 65536) : u2 (hd c r b f ++ ext) 2 = c := by
  show ((byte (c % 256)).toNat : Int) + 256 * ((byte (c / 256 % 256)).toNat : Int) = c
  rw [byte_toNat _ (mod_in _), byte_toNat _ (mod_in _)]
  (first | lia | omega)
theorem hd_u4 (h : 0 ≤ r ∧ r < 4294967296) : u4 (hd c r b f ++ ext) 4 = r := by
  show ((byte (r % 256)).toNat : Int) + 256 * ((byte (r / 256 % 256)).toNat : Int) + 65536 * ((byte (r / 65536 % 256)).toNat : Int) + 16777216 * ((byte (r / 16777216 % 256)).toNat : Int) = r
  rw [byte_toNat _ (mod_in _), byte_toNat _ (mod_in _), byte_toNat _ (mod_in _), byte_toNat _ (mod_in _)]
  (first | lia | omega)
theorem hd_u8 : u4 (hd c r b f ++ ext) 8 = (r * f) % 4294967296 := by
  show ((byte ((r * f) % 256)).toNat : Int) + 256 * ((byte ((r * f) / 256 % 256)).toNat : Int) + 65536 * ((byte ((r * f) / 65536 % 256)).toNat : Int) + 16777216 * ((byte ((r * f) / 16777216 % 256)).toNat : Int) = (r * f) % 4294967296
  rw [byte_toNat _ (mod_in _), byte_toNat _ (mod_in _), byte_toNat _ (mod_in _), byte_toNat _ (mod_in _)]
  (first | lia | omega)
theorem hd_u12 : u2 (hd c r b f ++ ext) 12 = f % 65536 := by
  show ((byte (f % 256)).toNat : Int) + 256 * ((byte (f / 256 % 256)).toNat : Int) = f % 65536
  rw [byte_toNat _ (mod_in _), byte_toNat _ (mod_in _)]
  (first | lia | omega)
theorem hd_u14 (h : 0 ≤ b ∧ b < 65536) : u2 (hd c r b f ++ ext) 14 = b := by
  show ((byte (b % 256)).toNat : Int) + 256 * ((byte (b / 256 % 256)).toNat : Int) = b
  rw [byte_toNat _ (mod_in _), byte_toNat _ (mod_in _)]
  (first | lia | omega)
end
structure Heard (c r b : Int) : Prop where
  c : 0 ≤ c ∧ c < 65536
  r : 0 ≤ r ∧ r < 4294967296
  b : 0 ≤ b ∧ b < 65536

theorem fok_nums {c r b : Int} (h : fok c r b = true) : 1 ≤ c ∧ c ≤ c * b / 8 ∧ c * b / 8 < 65536 ∧ 1 ≤ r ∧ 0 ≤ r * (c * b / 8) ∧ r * (c * b / 8) < 4294967296 := by
  have q := fok_iff.mp h
  have q6 := frame_pos q.2.2.2.2.1 q.1
  have q7 := mul_big q.2.2.1 (show 1 ≤ c * b / 8 by have := q.1; (first | lia | omega))
  obtain ⟨q1, q2, q3, q4, q5, q8, q9⟩ := q
  exact ⟨q1, q6, q8, q3, by (first | lia | omega), q9⟩
theorem rf_head {c r b : Int} (H : Heard c r b) (ext : List UInt8) (h : fok c r b = true) : RF (hd c r b (c * b / 8) ++ ext) := by
  obtain ⟨n1, n2, n3, n4, n5, n6⟩ := fok_nums h
  have e12 : u2 (hd c r b (c * b / 8) ++ ext) 12 = c * b / 8 := by rw [hd_u12]; (first | lia | omega)
  refine ⟨by rw [List.length_append, hd_len]; (first | lia | omega), hd_u0 _ _ _ _ _, ?_, ?_, ?_⟩
  · rw [hd_u2 _ _ _ _ _ H.c, hd_u4 _ _ _ _ _ H.r, hd_u14 _ _ _ _ _ H.b]; exact h
  · rw [e12, hd_u2 _ _ _ _ _ H.c, hd_u14 _ _ _ _ _ H.b]
  · rw [e12, hd_u4 _ _ _ _ _ H.r, hd_u8]; (first | lia | omega)
theorem rf_head_no {c r b : Int} (H : Heard c r b) (f : Int) (ext : List UInt8) (h : fok c r b = false) : ¬ RF (hd c r b f ++ ext) := by
  intro q
  have := q.ok
  rw [hd_u2 _ _ _ _ _ H.c, hd_u4 _ _ _ _ _ H.r, hd_u14 _ _ _ _ _ H.b, h] at this
  cases this

theorem bok_eq {b b' : Int} (h : BOK b) (h' : BOK b') (e : b / 8 = b' / 8) : b = b' := by
  rcases bok_iff.mp h with rfl | rfl | rfl | rfl <;> rcases bok_iff.mp h' with rfl | rfl | rfl | rfl <;> first | rfl | exact absurd e (by decide)
theorem pos_ne {a : Int} (h : 1 ≤ a) : a ≠ 0 := fun e => absurd (e ▸ h) (by decide)
theorem six_parts {p : Nat} (hp : p < 16) : p < 2 ∨ (2 ≤ p ∧ p < 4) ∨ (4 ≤ p ∧ p < 8) ∨ (8 ≤ p ∧ p < 12) ∨ (12 ≤ p ∧ p < 14) ∨ (14 ≤ p ∧ p < 16) := by (first | lia | omega)

theorem rf_turned {c r b : Int} (H : Heard c r b) (ext : List UInt8) (h : fok c r b = true) (p : Nat) (hp : p < 16) (x : UInt8) (hx : (x.toNat : Int) ≠ rd (hd c r b (c * b / 8) ++ ext) p) : ¬ RF (turned (hd c r b (c * b / 8) ++ ext) p x) := by
  intro q
  have R0 := rf_head H ext h
  have hl : p < (hd c r b (c * b / 8) ++ ext).length := by rw [List.length_append, hd_len]; exact Nat.lt_of_lt_of_le hp (Nat.le_add_right _ _)
  obtain ⟨n1, n2, n3, n4, n5, n6⟩ := fok_nums h
  have c2 := hd_u2 c r b (c * b / 8) ext H.c
  have c4 := hd_u4 c r b (c * b / 8) ext H.r
  have c14 := hd_u14 c r b (c * b / 8) ext H.b
  have k0 := R0.kind
  have k12 := R0.frame
  have k8 := R0.rate
  have kb : BOK b := (fok_iff.mp h).2.2.2.2.1
  generalize hd c r b (c * b / 8) ++ ext = l at *
  have q0 := q.kind
  have q12 := q.frame
  have q8 := q.rate
  have qb : BOK (u2 (turned l p x) 14) := (fok_iff.mp q.ok).2.2.2.2.1
  rcases six_parts hp with w | w | w | w | w | w
  · exact tu2_hit hl hx 0 ⟨Nat.zero_le _, w⟩ (by rw [q0, k0])
  · refine tu2_hit hl hx 2 w ?_
    rw [tu2_off hl 12 (.inl (Nat.lt_of_lt_of_le w.2 (by decide))), tu2_off hl 14 (.inl (Nat.lt_of_lt_of_le w.2 (by decide))), k12] at q12
    rw [c14, (frame_of kb).1, (frame_of kb).1] at q12
    exact (Int.eq_of_mul_eq_mul_right (pos_ne (frame_of (c := 0) kb).2.1) q12).symm
  · refine tu4_hit hl hx 4 w ?_
    rw [tu4_off hl 8 (.inl w.2), tu2_off hl 12 (.inl (Nat.lt_of_lt_of_le w.2 (by decide))), k8, k12, c2, c14] at q8
    exact (Int.eq_of_mul_eq_mul_right (pos_ne (Int.le_trans n1 n2)) q8).symm
  · refine tu4_hit hl hx 8 w ?_
    rw [q8, tu4_off hl 4 (.inr w.1), tu2_off hl 12 (.inl w.2), k8]
  · refine tu2_hit hl hx 12 w ?_
    rw [q12, tu2_off hl 2 (.inr (Nat.le_trans (by decide) w.1)), tu2_off hl 14 (.inl w.2), k12]
  · refine tu2_hit hl hx 14 w ?_
    rw [tu2_off hl 12 (.inr w.1), tu2_off hl 2 (.inr (Nat.le_trans (by decide) w.1)), k12, c2, c14] at q12
    rw [c14]
    rw [(frame_of kb).1, (frame_of qb).1] at q12
    exact (bok_eq kb qb (Int.eq_of_mul_eq_mul_left (pos_ne n1) q12)).symm
end
end Mine
namespace Mine
section
open PySem

noncomputable def shapes : List Str := [Str.ofString "fd", Str.ofString "xfd", Str.ofString "fxd", Str.ofString "fdx", Str.ofString "xfxd", Str.ofString "xfdx", Str.ofString "", Str.ofString "df", Str.ofString "ffd", Str.ofString "fdd", Str.ofString "xf", Str.ofString "dx"]
noncomputable def codes : List (List Nat) := [[102, 100], [120, 102, 100], [102, 120, 100], [102, 100, 120], [120, 102, 120, 100], [120, 102, 100, 120], [], [100, 102], [102, 102, 100], [102, 100, 100], [120, 102], [100, 120]]
noncomputable def shapeAt (i : Nat) : Str := shapes.getD i (Str.ofString "")
noncomputable def codeAt (i : Nat) : List Nat := codes.getD i []
theorem tab_shapes : tabAt P1 17 = .tup (shapes.map D.str) := by kernel_rfl
theorem shape_code : ∀ i, i < 12 → (shapeAt i).cps.toList = codeAt i := by decide +kernel
theorem shape_len : ∀ i, i < 12 → (shapeAt i).length = (codeAt i).length ∧ (codeAt i).length ≤ 4 := by decide +kernel
theorem shape_ascii : ∀ i, i < 12 → (shapeAt i).cps.all (· < 128) = true := by decide +kernel
theorem shape_has : ∀ i, i < 12 → Txt.contains (shapeAt i) (Str.ofString "x") = decide (120 ∈ codeAt i) := by decide +kernel
theorem shape_all : ∀ i, i < 12 → ∀ c ∈ codeAt i, c = 102 ∨ c = 100 ∨ c = 120 := by decide +kernel
theorem shape_fd : ∀ i, i < 12 → ∀ n : Nat, n < 5 → (Txt.replace (Txt.slice (shapeAt i) none (some (n : Int))) (Str.ofString "x") (Str.ofString "") == Str.ofString "fd") = decide (((codeAt i).take n).filter (fun c => decide (c ≠ 120)) = [102, 100]) := by decide +kernel
theorem shape_cut : ∀ i, i < 12 → ∀ n : Nat, n < 5 → (Txt.slice (shapeAt i) none (some (n : Int))).length ≤ 4 := by decide +kernel
theorem empty_len : (Str.ofString "").length = 0 := by decide +kernel

/-! the fold of read_wav over the law's chunks -/
noncomputable def ofCode (c : Nat) : Option (List UInt8) := if c = 102 then some fmtN else if c = 100 then some dataN else none
theorem wv_fold (bd sm nm_ ot : List UInt8) (hx1 : nm_ ≠ fmtN) (hx2 : nm_ ≠ dataN) : ∀ (cs : List Nat) (t : Wv),
    (cs.map (chOf bd sm nm_ ot)).foldl wvStep t = (t.1 ++ cs.filterMap ofCode, if 102 ∈ cs then .bytes bd else t.2.1, if 100 ∈ cs then .bytes sm else t.2.2)
  | [], t => by simp
  | c :: cs, t => by
    rw [List.map_cons, List.foldl_cons, wv_fold bd sm nm_ ot hx1 hx2 cs]
    by_cases h1 : c = 102
    · subst h1
      have e : wvStep t (chOf bd sm nm_ ot 102) = (t.1 ++ [fmtN], .bytes bd, t.2.2) := rfl
      rw [e]
      have e2 : (102 :: cs).filterMap ofCode = fmtN :: cs.filterMap ofCode := rfl
      rw [e2]
      simp
    · by_cases h2 : c = 100
      · subst h2
        have e : wvStep t (chOf bd sm nm_ ot 100) = (t.1 ++ [dataN], t.2.1, .bytes sm) := rfl
        rw [e]
        have e2 : (100 :: cs).filterMap ofCode = dataN :: cs.filterMap ofCode := rfl
        rw [e2]
        simp
      · have e : wvStep t (chOf bd sm nm_ ot c) = t := by
          unfold wvStep chOf
          rw [if_neg h1, if_neg h2, if_neg hx1, if_neg hx2]
        have e2 : (c :: cs).filterMap ofCode = cs.filterMap ofCode := by
          rw [List.filterMap_cons]
          unfold ofCode
          rw [if_neg h1, if_neg h2]
        rw [e, e2]
        have e3 : (102 ∈ c :: cs) = (102 ∈ cs) := by simp; (first | lia | omega)
        have e4 : (100 ∈ c :: cs) = (100 ∈ cs) := by simp; (first | lia | omega)
        simp only [e3, e4]
theorem fold_names : ∀ i, i < 12 → ∀ n, n < 5 → (((codeAt i).take n).filterMap ofCode = [fmtN, dataN] ↔ ((codeAt i).take n).filter (fun c => decide (c ≠ 120)) = [102, 100]) := by decide +kernel
theorem fold_has : ∀ i, i < 12 → ∀ n, n < 5 → ((codeAt i).take n).filter (fun c => decide (c ≠ 120)) = [102, 100] → 102 ∈ (codeAt i).take n ∧ 100 ∈ (codeAt i).take n := by decide +kernel
theorem nm_names : ∀ j, j < 8 → nm.getD j [] ≠ fmtN ∧ nm.getD j [] ≠ dataN ∧ (nm.getD j []).length ≤ 5 := by decide +kernel

/-! equality of data with itself -/
theorem eq_pair (c : Ch) : eqD 3 (cD c) (cD c) = some true := by
  show (match some (c.1 == c.1), (match some (c.2 == c.2), some true with | some x, some y => some (x && y) | _, _ => none) with | some x, some y => some (x && y) | _, _ => none) = _
  rw [beq_self_eq_true, beq_self_eq_true]
  rfl
theorem eq_chunks (cs : List Ch) : eqD 4 (.lst (cs.map cD)) (.lst (cs.map cD)) = some true := by
  show eqL (eqD 3) (cs.map cD) (cs.map cD) = _
  induction cs with
  | nil => rfl
  | cons c r ih =>
    show (match eqD 3 (cD c) (cD c), eqL (eqD 3) (r.map cD) (r.map cD) with | some x, some y => some (x && y) | _, _ => none) = _
    rw [ih, eq_pair]
    rfl
theorem eq_sound (a b c : Int) (l : List UInt8) : eqD 4 (.tup [.tup [.int a, .int b, .int c], .bytes l]) (.tup [.tup [.int a, .int b, .int c], .bytes l]) = some true := by
  show (match (match some (a == a), (match some (b == b), (match some (c == c), some true with | some x, some y => some (x && y) | _, _ => none) with | some x, some y => some (x && y) | _, _ => none) with | some x, some y => some (x && y) | _, _ => none), (match some (l == l), some true with | some x, some y => some (x && y) | _, _ => none) with | some x, some y => some (x && y) | _, _ => none) = _
  rw [beq_self_eq_true, beq_self_eq_true, beq_self_eq_true, beq_self_eq_true]
  rfl
theorem cut_chunks (cs : List Ch) (n : Nat) : cut (cs.map cD) none (some (n : Int)) = (cs.take n).map cD := by
  rw [cut_take, List.map_take]
end
end Mine
namespace Mine
section
open PySem

theorem lp_str (l : List (Str × D)) (x y : String) (d : D) : look (put l (Str.ofString x) d) (Str.ofString y) = if x = y then some d else look l (Str.ofString y) := by
  rw [look_put]
  simp only [str_eq]
theorem e_repl (C : Cfg) (n : Nat) (s : PS) (v i : Expr) (vp : Pos) (y z : Str) (k1 k2 : Nat) (q1 q2 ap p : Pos) (h : (ap.endLine == p.line) = true) :
    evE C (n + 1) s (.Call (.Attribute (.Subscript v i vp) (Str.ofString "replace") ap) [.Constant (.str y) k1 q1, .Constant (.str z) k2 q2] [] p) = (evE C n s (.Subscript v i vp)).bind fun ov => replD ov (Str.ofString "replace") y z := by
  show (if (true && true && (ap.endLine == p.line) && decide (([.Constant (.str y) k1 q1, .Constant (.str z) k2 q2] : List Expr).length < 30)) = true then _ else _) = _
  rw [h, if_pos (by rfl)]
  rfl
theorem repl_ok (x y z : Str) (h : (y == z) = false ∧ x.length + (x.length + 1) * z.length ≤ line) : replD (.str x) (Str.ofString "replace") y z = .ok (.str (Txt.replace x y z)) := by
  show (if _ then _ else _) = _
  rw [if_pos ⟨rfl, h.1, h.2⟩]
theorem cut_s (x : Str) (lo hi : Option Int) (h : x.length ≤ 1000000) : cutD (.str x) lo hi = .ok (.str (Txt.slice x lo hi)) := by
  show (if _ then _ else _) = _
  rw [if_pos h]

noncomputable abbrev fd (i n : Nat) : Bool := decide (((codeAt i).take n).filter (fun c => decide (c ≠ 120)) = [102, 100])

/-- behind the count -/
theorem law_Z (j : Nat) (rho : List (Str × D)) (i : Nat) (hi : i < 12) (c : Int) (hc : c = -1 ∨ ∃ n : Nat, n < 5 ∧ c = n) (sn : Bool) (hc0 hr0 bt : Int) (l sh cn : List UInt8) (hl : l.length ≤ line)
    (f1 : look rho (Str.ofString "shape") = some (.str (shapeAt i))) (f2 : look rho (Str.ofString "count") = some (.int c)) (f3 : look rho (Str.ofString "sane") = some (.bool sn)) (f4 : look rho (Str.ofString "heard") = some (.tup [.int hc0, .int hr0, .int bt]))
    (f5 : look rho (Str.ofString "samples") = some (.bytes l)) (f6 : look rho (Str.ofString "shown") = some (.bytes sh)) (f7 : look rho (Str.ofString "canon") = some (.bytes cn))
    (ho : Fk Q1 (j + 4) (Str.ofString "_law_open") [.bytes sh] = if 0 ≤ c ∧ fd i c.toNat = true ∧ sn = true ∧ fok hc0 hr0 bt = true ∧ (l.length : Int) % (hc0 * bt / 8) = 0 then .ok (.tup [.tup [.int hc0, .int hr0, .int bt], .bytes l]) else .ok (.str (Str.ofString "refused")))
    (hs : fok hc0 hr0 bt = true ∧ (l.length : Int) % (hc0 * bt / 8) = 0 → Fk Q1 (j + 4) (Str.ofString "_law_save") [.tup [.int hc0, .int hr0, .int bt], .bytes l] = .ok (.bytes cn)) :
    execs (C1 (j + 4) 35) 56 ⟨rho, none⟩ ((fnAt P1 35).body.drop 44) = .ret (.bool true) := by
  conv in (fnAt P1 35).body.drop 44 => whnf
  unfold C1
  have rf : (Str.ofString "refused" == Str.ofString "refused") = true := beq_self_eq_true _
  have hfits := ev_fits (j + 2) hc0 hr0 bt l hl
  have hty := ev_typed (j + 3) hc0 hr0 bt l
  have hsl : (shapeAt i).length ≤ 1000000 := by have := shape_len i hi; (first | lia | omega)
  by_cases hneg : c = -1
  · subst hneg
    rw [if_neg (by (first | lia | omega))] at ho
    simp +decide only [getR_some, get_n, set_n, bind_ok, e_const, e_name, e_call, es_nil, es_cons, c_int, c_str, c_bool, m_ge, m_ne, neR_some, q_str, isF, t_bool, ts_and, andO_f, t_cmp, ch_one, ss_nil, ss_cons, seq_next, seq_ret, s_if, ifO_f, s_ret, retO_ok, asgO_ok, ofS_some, a_name, decide_false, Bool.and_true, Bool.not_true, beq_self_eq_true, lm_one, ns_nil, ns_cons, bm_Name, ns_Name, bm_Constant, Int.reduceNeg, s_asgC, s_asgK, u35_54, u35_58, u35_64, u35_65, u35_66, u35_67, bb12, u35_92, f2, f6, ho, lp_hit, lp_miss]
  · obtain ⟨n, hn5, rfl⟩ : ∃ n : Nat, n < 5 ∧ c = n := by
      rcases hc with q | q
      · exact absurd q hneg
      · exact q
    have a1 : decide ((0 : Int) ≤ n) = true := by simp
    have a2 := shape_fd i hi n hn5
    have a3 : (Txt.slice (shapeAt i) none (some (n : Int))).length + ((Txt.slice (shapeAt i) none (some (n : Int))).length + 1) * (Str.ofString "").length ≤ line := by
      rw [empty_len]; have := shape_cut i hi n hn5; unfold line; (first | lia | omega)
    rw [Int.toNat_natCast] at ho
    cases hfd : fd i n with
    | false =>
      rw [if_neg (by rintro ⟨_, q, _⟩; rw [hfd] at q; cases q)] at ho
      rw [show decide (((codeAt i).take n).filter (fun c => decide (c ≠ 120)) = [102, 100]) = false from hfd] at a2
      simp +decide only [str_beq, getR_some, get_n, set_n, bind_ok, e_const, e_name, e_call, e_slice, es_nil, es_cons, o_none, o_some, part_none, part_int, c_int, c_str, c_bool, m_ge, m_eq, m_ne, eqR_some, neR_some, q_str, isF, t_bool, ts_and, andO_t, andO_f, t_cmp, ch_one, ss_nil, ss_cons, seq_next, seq_ret, s_if, ifO_f, s_ret, retO_ok, asgO_ok, ofS_some, a_name, decide_false, Bool.and_true, Bool.not_true, beq_self_eq_true, lm_one, ns_nil, ns_cons, bm_Name, ns_Name, bm_Constant, and_self, ge_iff_le, s_asgC, s_asgK, u35_34, u35_54, u35_58, u35_64, u35_65, u35_66, u35_67, bb12, u35_92, f1, f2, f6, ho, a1, a2, e_repl, repl_ok, cut_s, hsl, a3, lp_hit, lp_miss]
    | true =>
      rw [show decide (((codeAt i).take n).filter (fun c => decide (c ≠ 120)) = [102, 100]) = true from hfd] at a2
      cases hsn : sn with
      | false =>
        subst hsn
        rw [if_neg (by rintro ⟨_, _, q, _⟩; cases q)] at ho
        simp +decide only [str_beq, getR_some, get_n, set_n, bind_ok, e_const, e_name, e_call, e_slice, es_nil, es_cons, o_none, o_some, part_none, part_int, c_int, c_str, c_bool, m_ge, m_eq, m_ne, eqR_some, neR_some, q_str, isF, t_bool, ts_andN, ts_and, andO_t, andO_f, t_cmp, ch_one, t_name, boolD_b, ss_nil, ss_cons, seq_next, seq_ret, s_if, ifO_t, ifO_f, s_ret, retO_ok, asgO_ok, ofS_some, a_name, decide_false, Bool.and_true, Bool.not_true, beq_self_eq_true, lm_one, ns_nil, ns_cons, bm_Name, ns_Name, bm_Constant, and_self, ge_iff_le, s_asgC, s_asgK, u35_32, u35_34, u35_54, u35_58, u35_64, u35_65, u35_66, u35_67, bb12, u35_92, f1, f2, f3, f6, ho, a1, a2, e_repl, repl_ok, cut_s, hsl, a3, lp_hit, lp_miss]
      | true =>
        subst hsn
        by_cases hF : fok hc0 hr0 bt = true ∧ (l.length : Int) % (hc0 * bt / 8) = 0
        · rw [if_pos ⟨by (first | lia | omega), hfd, rfl, hF.1, hF.2⟩] at ho
          have hs' := hs hF
          have b1 := hF.1
          have b2 : decide ((l.length : Int) % (hc0 * bt / 8) = 0) = true := decide_eq_true hF.2
          have es := eq_sound hc0 hr0 bt l
          have eb : (cn == cn) = true := beq_self_eq_true _
          simp +decide only [str_beq, getR_some, get_n, set_n, bind_ok, e_const, e_name, e_call, e_slice, e_subC, e_tup, es_nil, es_cons, o_none, o_some, part_none, part_int, c_int, c_str, c_bool, m_ge, m_eq, m_ne, eqR_some, neR_some, q_str, q_bytes, q_ts, isF, t_not, notR_t, t_bool, ts_andN, ts_and, andO_t, t_cmp, ch_one, t_name, t_call, boolD_b, ss_nil, ss_cons, seq_next, seq_ret, s_if, ifO_t, ifO_f, s_ret, retO_ok, asgO_ok, ofS_some, a_name, decide_false, Bool.and_true, Bool.not_true, Bool.not_false, beq_self_eq_true, lm_one, ns_nil, ns_cons, bm_Name, ns_Name, bm_Constant, ns_Subscript, List.length_cons, List.length_nil, Nat.reduceAdd, Nat.zero_add, idxR_some, x_tup, and_self, Int.reduceLE, Int.reduceLT, ge_iff_le, Int.reduceToNat, s_asgC, s_asgK, s_asgTp, u35_10, u35_18, u35_22, u35_32, u35_34, u35_54, u35_58, u35_64, u35_65, u35_66, u35_67, bb17, u35_84, bb8, u35_86, bb12, u35_92, bb22, u35_112, f1, f2, f3, f4, f5, f6, f7, ho, a1, a2, e_repl, repl_ok, cut_s, hsl, a3, hfits, b1, b2, hs', es, hty, List.getElem?_cons_zero, List.getElem?_cons_succ, lp_hit, lp_miss]
        · rw [if_neg (by rintro ⟨_, _, _, q⟩; exact hF q)] at ho
          have b3 : (fok hc0 hr0 bt && decide ((l.length : Int) % (hc0 * bt / 8) = 0)) = false := by
            rw [Bool.and_eq_false_iff]
            by_cases q : fok hc0 hr0 bt = true
            · exact .inr (decide_eq_false fun w => hF ⟨q, w⟩)
            · exact .inl (by simpa using q)
          rw [b3] at hfits
          simp +decide only [str_beq, getR_some, get_n, set_n, bind_ok, e_const, e_name, e_call, e_slice, es_nil, es_cons, o_none, o_some, part_none, part_int, c_int, c_str, c_bool, m_ge, m_eq, m_ne, eqR_some, neR_some, q_str, isF, t_bool, ts_andN, ts_and, andO_t, andO_f, t_cmp, ch_one, t_name, t_call, boolD_b, ss_nil, ss_cons, seq_next, seq_ret, s_if, ifO_t, ifO_f, s_ret, retO_ok, asgO_ok, ofS_some, a_name, decide_false, Bool.and_true, Bool.not_true, beq_self_eq_true, lm_one, ns_nil, ns_cons, bm_Name, ns_Name, bm_Constant, and_self, ge_iff_le, s_asgC, s_asgK, u35_10, u35_18, u35_32, u35_34, u35_54, u35_58, u35_64, u35_65, u35_66, u35_67, bb8, u35_86, bb12, u35_92, f1, f2, f3, f4, f5, f6, ho, a1, a2, e_repl, repl_ok, cut_s, hsl, a3, hfits, lp_hit, lp_miss]
end
end Mine
namespace Mine
section
open PySem

theorem encs_take_le (cs : List Ch) (n : Nat) : (encs (cs.take n)).length ≤ (encs cs).length := by
  induction cs generalizing n with
  | nil => rw [List.take_nil]; exact Nat.le_refl _
  | cons c r ih =>
    cases n with
    | zero => exact Nat.zero_le _
    | succ n =>
      have e : ∀ x : List Ch, (encs (c :: x)).length = (encC 0 c).length + (encs x).length := fun x => by simp [encs]
      rw [List.take_succ_cons, e, e]
      have := ih n
      (first | lia | omega)
theorem ev_rc_plain (k : Nat) (cs : List Ch) (hc : ∀ c ∈ cs, Good c) (hz : (encs cs).length ≤ 400) (hcz : cs.length < 450) : Fk Q1 (k + 2) (Str.ofString "read_chunks") [.bytes (plain cs)] = .ok (.lst (cs.map cD)) := by
  rw [plain_mk]
  exact ev_rc_mk k _ _ (by (first | lia | omega)) hz cs hc rfl hcz

/-- read_wav of a run of the law's chunks -/
theorem open_at (j i n : Nat) (hi : i < 12) (hn5 : n < 5) (bd l nm_ ot : List UInt8) (hx1 : nm_ ≠ fmtN) (hx2 : nm_ ≠ dataN) (sn : Bool) (hc0 hr0 bt : Int) (hl : l.length ≤ line)
    (hg : ∀ c ∈ (codeAt i).map (chOf bd l nm_ ot), Good c) (hz : (encs ((codeAt i).map (chOf bd l nm_ ot))).length ≤ 400)
    (F1 : sn = true → fok hc0 hr0 bt = true → ∀ k, Fk Q1 (k + 2) (Str.ofString "read_format") [.bytes bd] = .ok (.tup [.int hc0, .int hr0, .int bt])) (F2 : ¬ (sn = true ∧ fok hc0 hr0 bt = true) → ∀ k, Fk Q1 (k + 2) (Str.ofString "read_format") [.bytes bd] = .raise) :
    Fk Q1 (j + 4) (Str.ofString "_law_open") [.bytes (plain (((codeAt i).map (chOf bd l nm_ ot)).take n))] = if fd i n = true ∧ sn = true ∧ fok hc0 hr0 bt = true ∧ (l.length : Int) % (hc0 * bt / 8) = 0 then .ok (.tup [.tup [.int hc0, .int hr0, .int bt], .bytes l]) else .ok (.str (Str.ofString "refused")) := by
  have h4 := (shape_len i hi).2
  have hlen : (((codeAt i).map (chOf bd l nm_ ot)).take n).length ≤ 4 := by rw [List.length_take, List.length_map]; (first | lia | omega)
  have rc := ev_rc_plain j (((codeAt i).map (chOf bd l nm_ ot)).take n) (fun c h => hg c (List.mem_of_mem_take h)) (Nat.le_trans (encs_take_le _ _) hz) (by (first | lia | omega))
  have ef : (((codeAt i).map (chOf bd l nm_ ot)).take n).foldl wvStep ([], .none, .none) = ([] ++ ((codeAt i).take n).filterMap ofCode, if 102 ∈ (codeAt i).take n then .bytes bd else .none, if 100 ∈ (codeAt i).take n then .bytes l else .none) := by
    rw [← List.map_take]
    exact wv_fold bd l nm_ ot hx1 hx2 _ _
  cases hfd : fd i n with
  | false =>
    rw [if_neg (by rintro ⟨q, _⟩; cases q)]
    refine ev_open_no (j + 2) _ (ev_rw_names j _ _ (by (first | lia | omega)) rc ?_)
    rw [ef]
    show [] ++ _ ≠ _
    rw [List.nil_append]
    exact fun q => of_decide_eq_false hfd ((fold_names i hi n hn5).mp q)
  | true =>
    have q := of_decide_eq_true hfd
    have q1 := (fold_names i hi n hn5).mpr q
    have q2 := fold_has i hi n hn5 q
    rw [q1, if_pos q2.1, if_pos q2.2, List.nil_append] at ef
    by_cases hF : sn = true ∧ fok hc0 hr0 bt = true
    · have w := fok_iff.mp hF.2
      have w1 := fok_nums hF.2
      have e := ev_rw_ok j _ bd l hc0 hr0 bt ⟨w.1, w.2.1⟩ (by (first | lia | omega)) hl _ (by (first | lia | omega)) rc ef (F1 hF.1 hF.2 j)
      by_cases hm : (l.length : Int) % (hc0 * bt / 8) = 0
      · rw [if_pos hm] at e
        rw [if_pos ⟨rfl, hF.1, hF.2, hm⟩]
        exact ev_open_ok (j + 2) _ _ e
      · rw [if_neg hm] at e
        rw [if_neg (by rintro ⟨_, _, _, q⟩; exact hm q)]
        exact ev_open_no (j + 2) _ e
    · rw [if_neg (by rintro ⟨_, a, b, _⟩; exact hF ⟨a, b⟩)]
      exact ev_open_no (j + 2) _ (ev_rw_fmt j _ bd _ _ (by (first | lia | omega)) rc ef (F2 hF j))

/-! the count -/
noncomputable def Keeps (rho rho' : List (Str × D)) : Prop := ∀ x : String, x ≠ "n" → x ≠ "count" → look rho' (Str.ofString x) = look rho (Str.ofString x)
theorem ct_step (j : Nat) (tw : List Ch) (hg : (encs tw).length ≤ 400) (sh : List UInt8) (rho : List (Str × D)) (c0 : Int) (n : Nat) (htl : tw.length ≤ 1000) (f1 : look rho (Str.ofString "twin") = some (.lst (tw.map cD))) (f2 : look rho (Str.ofString "shown") = some (.bytes sh)) (f3 : look rho (Str.ofString "count") = some (.int c0)) (r : List D) :
    ∃ rho', forO (C1 (j + 4) 35) 57 (forTg (stAt (fnAt P1 35) 41)) (forBd (stAt (fnAt P1 35) 41)) (.int n :: r) ⟨rho, none⟩ = forO (C1 (j + 4) 35) 57 (forTg (stAt (fnAt P1 35) 41)) (forBd (stAt (fnAt P1 35) 41)) r ⟨rho', none⟩ ∧ Keeps rho rho' ∧
      look rho' (Str.ofString "count") = some (.int (if plain (tw.take n) = sh then (n : Int) else c0)) := by
  have hA : assignD (C1 (j + 4) 35) ⟨rho, none⟩ (forTg (stAt (fnAt P1 35) 41)) (.int n) = some ⟨put rho (Str.ofString "n") (.int n), none⟩ := by
    conv in forTg _ => whnf
    unfold C1
    simp +decide only [set_n, a_name, u35_61]
  have hpl := ev_plain (j + 2) (tw.take n) 9 0 (by decide) (by have := encs_take_le tw n; unfold line; (first | lia | omega))
  rw [plainF_zero] at hpl
  have cc := cut_chunks tw n
  have ll : (tw.map cD).length ≤ 1000000 := by rw [List.length_map]; (first | lia | omega)
  by_cases h : plain (tw.take n) = sh
  · have hB : execs (C1 (j + 4) 35) 57 ⟨put rho (Str.ofString "n") (.int n), none⟩ (forBd (stAt (fnAt P1 35) 41)) = .next ⟨put (put rho (Str.ofString "n") (.int n)) (Str.ofString "count") (.int n), none⟩ := by
      conv in forBd _ => whnf
      unfold C1
      have e : (plain (tw.take n) == sh) = true := by rw [h]; exact beq_self_eq_true _
      simp +decide only [getR_some, get_n, set_n, bind_ok, e_const, e_name, e_call, e_slice, es_nil, es_cons, o_none, o_some, part_none, part_int, c_int, m_eq, eqR_some, q_bytes, isF, t_cmp, ch_one, ss_nil, ss_cons, seq_next, s_if, ifO_t, asgO_ok, ofS_some, a_name, Bool.and_true, lm_one, ns_nil, ns_cons, bm_Name, ns_Constant, ns_Subscript, cut_l, s_asgNm, u35_42, u35_54, u35_59, u35_60, bb16, u35_82, f1, f2, cc, ll, hpl, e, lp_hit, lp_miss]
    refine ⟨_, by rw [for_cons, hA, forA_some, hB, forB_next], fun x h1 h2 => ?_, ?_⟩
    · rw [lp_str, if_neg (fun q => h2 q.symm), lp_str, if_neg (fun q => h1 q.symm)]
    · rw [lp_str, if_pos rfl, if_pos h]
  · have hB : execs (C1 (j + 4) 35) 57 ⟨put rho (Str.ofString "n") (.int n), none⟩ (forBd (stAt (fnAt P1 35) 41)) = .next ⟨put rho (Str.ofString "n") (.int n), none⟩ := by
      conv in forBd _ => whnf
      unfold C1
      have e : (plain (tw.take n) == sh) = false := beq_false_of_ne h
      simp +decide only [getR_some, get_n, bind_ok, e_const, e_name, e_call, e_slice, es_nil, es_cons, o_none, o_some, part_none, part_int, c_int, m_eq, eqR_some, q_bytes, isF, t_cmp, ch_one, ss_nil, ss_cons, seq_next, s_if, ifO_f, Bool.and_true, lm_one, ns_nil, ns_cons, bm_Name, ns_Constant, ns_Subscript, cut_l, u35_42, u35_54, u35_60, bb16, u35_82, f1, f2, cc, ll, hpl, e, lp_hit, lp_miss]
    refine ⟨_, by rw [for_cons, hA, forA_some, hB, forB_next], fun x h1 h2 => ?_, ?_⟩
    · rw [lp_str, if_neg (fun q => h1 q.symm)]
    · rw [lp_str, if_neg (by decide), f3, if_neg h]
theorem ct_loop (j : Nat) (tw : List Ch) (hg : (encs tw).length ≤ 400) (sh : List UInt8) (htl : tw.length ≤ 1000) : ∀ (ns : List Nat) (rho : List (Str × D)) (c0 : Int), look rho (Str.ofString "twin") = some (.lst (tw.map cD)) → look rho (Str.ofString "shown") = some (.bytes sh) → look rho (Str.ofString "count") = some (.int c0) →
    ∃ rho' c1, forO (C1 (j + 4) 35) 57 (forTg (stAt (fnAt P1 35) 41)) (forBd (stAt (fnAt P1 35) 41)) (ns.map fun (n : Nat) => D.int (n : Int)) ⟨rho, none⟩ = .next ⟨rho', none⟩ ∧ Keeps rho rho' ∧ look rho' (Str.ofString "count") = some (.int c1) ∧
      ((c1 = c0 ∧ ∀ n ∈ ns, plain (tw.take n) ≠ sh) ∨ ∃ n ∈ ns, c1 = n ∧ plain (tw.take n) = sh)
  | [], rho, c0, f1, f2, f3 => ⟨rho, c0, rfl, fun _ _ _ => rfl, f3, .inl ⟨rfl, by simp⟩⟩
  | n :: ns, rho, c0, f1, f2, f3 => by
    obtain ⟨rho1, e1, k1, g1⟩ := ct_step j tw hg sh rho c0 n htl f1 f2 f3 (ns.map fun (n : Nat) => D.int (n : Int))
    obtain ⟨rho2, c2, e2, k2, g2, g3⟩ := ct_loop j tw hg sh htl ns rho1 _ (by rw [k1 "twin" (by decide) (by decide)]; exact f1) (by rw [k1 "shown" (by decide) (by decide)]; exact f2) g1
    refine ⟨rho2, c2, by rw [List.map_cons, e1, e2], fun x h1 h2 => (k2 x h1 h2).trans (k1 x h1 h2), g2, ?_⟩
    rcases g3 with ⟨g3, g4⟩ | ⟨m, hm, g3, g4⟩
    · by_cases h : plain (tw.take n) = sh
      · rw [if_pos h] at g3
        exact .inr ⟨n, List.mem_cons_self, g3, h⟩
      · rw [if_neg h] at g3
        refine .inl ⟨g3, fun m hm => ?_⟩
        rcases List.mem_cons.mp hm with rfl | hm
        · exact h
        · exact g4 m hm
    · exact .inr ⟨m, List.mem_cons_of_mem _ hm, g3, g4⟩
end
end Mine
namespace Mine
section
open PySem

/-- what the law's end knows -/
structure Know (rho : List (Str × D)) (i : Nat) (tw : List Ch) (sn : Bool) (hc0 hr0 bt : Int) (l cn : List UInt8) : Prop where
  shape : look rho (Str.ofString "shape") = some (.str (shapeAt i))
  twin : look rho (Str.ofString "twin") = some (.lst (tw.map cD))
  sane : look rho (Str.ofString "sane") = some (.bool sn)
  heard : look rho (Str.ofString "heard") = some (.tup [.int hc0, .int hr0, .int bt])
  samples : look rho (Str.ofString "samples") = some (.bytes l)
  canon : look rho (Str.ofString "canon") = some (.bytes cn)
structure Sound (i : Nat) (tw : List Ch) (bd nm_ ot : List UInt8) (sn : Bool) (hc0 hr0 bt : Int) (l cn : List UInt8) : Prop where
  hi : i < 12
  is : tw = (codeAt i).map (chOf bd l nm_ ot)
  nf : nm_ ≠ fmtN
  nd : nm_ ≠ dataN
  good : ∀ c ∈ tw, Good c
  small : (encs tw).length < 200
  ll : l.length ≤ 1000
  F1 : sn = true → fok hc0 hr0 bt = true → ∀ k, Fk Q1 (k + 2) (Str.ofString "read_format") [.bytes bd] = .ok (.tup [.int hc0, .int hr0, .int bt])
  F2 : ¬ (sn = true ∧ fok hc0 hr0 bt = true) → ∀ k, Fk Q1 (k + 2) (Str.ofString "read_format") [.bytes bd] = .raise
  save : fok hc0 hr0 bt = true ∧ (l.length : Int) % (hc0 * bt / 8) = 0 → ∀ k, Fk Q1 (k + 4) (Str.ofString "_law_save") [.tup [.int hc0, .int hr0, .int bt], .bytes l] = .ok (.bytes cn)
theorem Sound.tl {i : Nat} {tw : List Ch} {bd nm_ ot : List UInt8} {sn : Bool} {hc0 hr0 bt : Int} {l cn : List UInt8} (H : Sound i tw bd nm_ ot sn hc0 hr0 bt l cn) : tw.length = (shapeAt i).length ∧ tw.length ≤ 4 := by
  have := shape_len i H.hi
  rw [H.is, List.length_map]
  (first | lia | omega)

theorem look_off (rho : List (Str × D)) (x y : String) (d v : D) (h : x ≠ y) (e : look rho (Str.ofString y) = some v) : look (put rho (Str.ofString x) d) (Str.ofString y) = some v := by
  rw [lp_str, if_neg h]; exact e
theorem Know.put {rho : List (Str × D)} {i : Nat} {tw : List Ch} {sn : Bool} {hc0 hr0 bt : Int} {l cn : List UInt8} (K : Know rho i tw sn hc0 hr0 bt l cn) (x : String) (d : D)
    (h : x ≠ "shape" ∧ x ≠ "twin" ∧ x ≠ "sane" ∧ x ≠ "heard" ∧ x ≠ "samples" ∧ x ≠ "canon") : Know (Mine.put rho (Str.ofString x) d) i tw sn hc0 hr0 bt l cn :=
  ⟨look_off _ _ _ _ _ h.1 K.shape, look_off _ _ _ _ _ h.2.1 K.twin, look_off _ _ _ _ _ h.2.2.1 K.sane, look_off _ _ _ _ _ h.2.2.2.1 K.heard, look_off _ _ _ _ _ h.2.2.2.2.1 K.samples, look_off _ _ _ _ _ h.2.2.2.2.2 K.canon⟩
theorem Know.keep {rho rho' : List (Str × D)} {i : Nat} {tw : List Ch} {sn : Bool} {hc0 hr0 bt : Int} {l cn : List UInt8} (K : Know rho i tw sn hc0 hr0 bt l cn) (hk : Keeps rho rho') : Know rho' i tw sn hc0 hr0 bt l cn :=
  ⟨(hk _ (by decide) (by decide)).trans K.shape, (hk _ (by decide) (by decide)).trans K.twin, (hk _ (by decide) (by decide)).trans K.sane, (hk _ (by decide) (by decide)).trans K.heard, (hk _ (by decide) (by decide)).trans K.samples, (hk _ (by decide) (by decide)).trans K.canon⟩

theorem law_Y2 (j : Nat) (rho : List (Str × D)) (i : Nat) (tw : List Ch) (bd nm_ ot : List UInt8) (sn : Bool) (hc0 hr0 bt : Int) (l cn sh : List UInt8) (K : Know rho i tw sn hc0 hr0 bt l cn) (H : Sound i tw bd nm_ ot sn hc0 hr0 bt l cn)
    (f6 : look rho (Str.ofString "shown") = some (.bytes sh)) (hd : Dis tw sh) (c : Int) (f2 : look rho (Str.ofString "count") = some (.int c)) (hc : (c = -1 ∧ ∀ n ∈ List.range (tw.length + 1), plain (tw.take n) ≠ sh) ∨ ∃ n ∈ List.range (tw.length + 1), c = n ∧ plain (tw.take n) = sh) :
    execs (C1 (j + 4) 35) 58 ⟨rho, none⟩ ((fnAt P1 35).body.drop 42) = .ret (.bool true) := by
  have hb : (fnAt P1 35).body.drop 42 = stAt (fnAt P1 35) 42 :: stAt (fnAt P1 35) 43 :: (fnAt P1 35).body.drop 44 := rfl
  have tl := H.tl
  have hll : l.length ≤ line := by have := H.ll; unfold line; (first | lia | omega)
  rw [hb]
  conv in stAt (fnAt P1 35) 42 => whnf
  conv in stAt (fnAt P1 35) 43 => whnf
  have ft := K.twin
  rcases hc with ⟨rfl, hc⟩ | ⟨n, hn1, rfl, hc⟩
  · have hr : ∀ k, Fk Q1 (k + 2) (Str.ofString "read_chunks") [.bytes sh] = .raise := by
      rcases hd with ⟨n, h1, h2⟩ | h
      · exact absurd h2.symm (hc n (List.mem_range.mpr (by (first | lia | omega))))
      · exact h
    have w := ev_split_no (j + 2) _ (hr (j + 1))
    have ho := ev_open_no (j + 2) _ (ev_rw_no j _ (hr j))
    have rf : (Str.ofString "refused" == Str.ofString "refused") = true := beq_self_eq_true _
    have K' := K.put "parts" (.str (Str.ofString "refused")) (by decide)
    have fin := law_Z j (Mine.put rho (Str.ofString "parts") (.str (Str.ofString "refused"))) i H.hi (-1) (.inl rfl) sn hc0 hr0 bt l sh cn hll K'.shape (look_off _ _ _ _ _ (by decide) f2) K'.sane K'.heard K'.samples (look_off _ _ _ _ _ (by decide) f6) K'.canon (by rw [ho, if_neg (by (first | lia | omega))]) (fun q => H.save q j)
    unfold C1 at fin ⊢
    generalize hrest : (fnAt P1 35).body.drop 44 = rest at fin
    simp +decide only [getR_some, get_n, set_n, bind_ok, e_const, e_name, e_call, es_nil, es_cons, c_int, c_str, m_lt, m_ne, neR_some, q_str, isF, t_cmp, ch_one, ss_nil, ss_cons, seq_next, s_if, ifO_t, ifO_f, asgO_ok, ofS_some, a_name, decide_true, Bool.and_true, Bool.not_true, beq_self_eq_true, lm_one, ns_nil, ns_cons, ns_Name, bm_Constant, Int.reduceNeg, s_asgK, u35_54, u35_58, u35_62, u35_63, bb19, u35_108, f2, f6, w, lp_hit, lp_miss]
    exact fin
  · have hn2 : n ≤ tw.length := by have := List.mem_range.mp hn1; (first | lia | omega)
    have hz := H.small
    have w := ev_split_ok (j + 2) (.bytes sh) _ (by rw [← hc]; exact ev_rc_plain (j + 1) (tw.take n) (fun c h => H.good c (List.mem_of_mem_take h)) (by have := encs_take_le tw n; (first | lia | omega)) (by rw [List.length_take]; (first | lia | omega)))
    have ho := open_at j i n H.hi (by (first | lia | omega)) bd l nm_ ot H.nf H.nd sn hc0 hr0 bt hll (by rw [← H.is]; exact H.good) (by rw [← H.is]; (first | lia | omega)) H.F1 H.F2
    rw [← H.is, hc] at ho
    have a1 : decide ((n : Int) < 0) = false := by simp
    have cc := cut_chunks tw n
    have l2 : (tw.map cD).length ≤ 1000000 := by rw [List.length_map]; (first | lia | omega)
    have es := eq_chunks (tw.take n)
    have pt := ev_ptyped (j + 2) (tw.take n)
    have K' := K.put "parts" (.lst ((tw.take n).map cD)) (by decide)
    have fin := law_Z j (Mine.put rho (Str.ofString "parts") (.lst ((tw.take n).map cD))) i H.hi n (.inr ⟨n, by (first | lia | omega), rfl⟩) sn hc0 hr0 bt l sh cn hll K'.shape (look_off _ _ _ _ _ (by decide) f2) K'.sane K'.heard K'.samples (look_off _ _ _ _ _ (by decide) f6) K'.canon
      (by rw [ho, Int.toNat_natCast]
          by_cases q : fd i n = true ∧ sn = true ∧ fok hc0 hr0 bt = true ∧ (l.length : Int) % (hc0 * bt / 8) = 0
          · rw [if_pos q, if_pos ⟨by (first | lia | omega), q⟩]
          · rw [if_neg q, if_neg (fun z => q z.2)]) (fun q => H.save q j)
    unfold C1 at fin ⊢
    generalize hrest : (fnAt P1 35).body.drop 44 = rest at fin
    simp +decide only [getR_some, get_n, set_n, bind_ok, e_const, e_name, e_call, e_slice, es_nil, es_cons, o_none, o_some, part_none, part_int, c_int, m_lt, m_ne, neR_some, isF, t_not, notR_t, t_cmp, ch_one, t_call, boolD_b, ss_nil, ss_cons, seq_next, s_if, ifO_f, asgO_ok, ofS_some, a_name, Bool.and_true, Bool.not_true, lm_one, ns_nil, ns_cons, ns_Name, bm_Constant, bm_Subscript, cut_l, s_asgK, u35_42, u35_54, u35_58, u35_62, u35_63, bb19, u35_108, bb13, u35_110, ft, f2, f6, w, a1, cc, l2, es, pt, lp_hit, lp_miss]
    exact fin
theorem law_Y (j : Nat) (rho : List (Str × D)) (i : Nat) (tw : List Ch) (bd nm_ ot : List UInt8) (sn : Bool) (hc0 hr0 bt : Int) (l cn sh : List UInt8) (K : Know rho i tw sn hc0 hr0 bt l cn) (H : Sound i tw bd nm_ ot sn hc0 hr0 bt l cn)
    (f6 : look rho (Str.ofString "shown") = some (.bytes sh)) (hd : Dis tw sh) :
    execs (C1 (j + 4) 35) 60 ⟨rho, none⟩ ((fnAt P1 35).body.drop 40) = .ret (.bool true) := by
  have hb : (fnAt P1 35).body.drop 40 = stAt (fnAt P1 35) 40 :: stAt (fnAt P1 35) 41 :: (fnAt P1 35).body.drop 42 := rfl
  have tl := H.tl
  rw [hb]
  have K' := K.put "count" (.int (-1)) (by decide)
  have f6' : look (Mine.put rho (Str.ofString "count") (.int (-1))) (Str.ofString "shown") = some (.bytes sh) := look_off _ _ _ _ _ (by decide) f6
  have f2' : look (Mine.put rho (Str.ofString "count") (.int (-1))) (Str.ofString "count") = some (.int (-1)) := by rw [lp_str, if_pos rfl]
  obtain ⟨rho', c1, e0, hk, g1, g2⟩ := ct_loop j tw (by have := H.small; (first | lia | omega)) sh (by (first | lia | omega)) (List.range (tw.length + 1)) _ (-1) K'.twin f6' f2'
  have fin := law_Y2 j rho' i tw bd nm_ ot sn hc0 hr0 bt l cn sh (K'.keep hk) H ((hk _ (by decide) (by decide)).trans f6') hd c1 g1 g2
  have er : rangeD (((shapeAt i).length : Int) + 1) = (List.range (tw.length + 1)).map fun (n : Nat) => D.int (n : Int) := by
    unfold rangeD
    rw [show (((shapeAt i).length : Int) + 1).toNat = tw.length + 1 by (first | lia | omega)]
  have f1 := K.shape
  have hsl : (shapeAt i).length ≤ line := by unfold line; (first | lia | omega)
  have hr : (-1000 : Int) ≤ ((shapeAt i).length : Int) + 1 ∧ ((shapeAt i).length : Int) + 1 ≤ 1000 := by (first | lia | omega)
  generalize hrest : (fnAt P1 35).body.drop 42 = rest at fin
  conv in stAt (fnAt P1 35) 40 => whnf
  conv in stAt (fnAt P1 35) 41 => whnf
  unfold C1
  generalize hlist : ((List.range (tw.length + 1)).map fun (n : Nat) => D.int (n : Int)) = ns at e0 er
  simp +decide only [getR_some, get_n, set_n, bind_ok, e_const, e_name, e_bin, e_neg, e_neg_int, e_call, es_nil, es_cons, c_int, b_add, isB, k_len, len_s, ss_cons, seq_next, asgO_ok, ofS_some, a_name, s_for, forR_ok, i_range, itR_int, Bool.and_true, ns_nil, ns_cons, ns_Name, ns_BinOp, and_self, Int.reduceNeg, s_asgU, u35_34, u35_59, bb27, u35_69, bb29, u35_106, f1, hsl, hr, er, lp_miss]
  refine (congrArg (fun o => seqO o _ _ _) e0).trans ?_
  exact fin
end
end Mine
namespace Mine
section
open PySem

theorem plain_drop8 (cs : List Ch) : (plain cs).drop 8 = wave ++ encs cs := rfl
theorem law_X (j : Nat) (rho : List (Str × D)) (i : Nat) (tw : List Ch) (bd nm_ ot : List UInt8) (sn : Bool) (hc0 hr0 bt : Int) (l cn : List UInt8) (K : Know rho i tw sn hc0 hr0 bt l cn) (H : Sound i tw bd nm_ ot sn hc0 hr0 bt l cn)
    (S : List D) (x14 x15 x16 : Int) (f0 : look rho (Str.ofString "script") = some (.lst S)) (s14 : S[14]? = some (.int x14)) (s15 : S[15]? = some (.int x15)) (s16 : S[16]? = some (.int x16)) (f6 : look rho (Str.ofString "made") = some (.bytes (plain tw))) :
    execs (C1 (j + 4) 35) 68 ⟨rho, none⟩ ((fnAt P1 35).body.drop 32) = .ret (.bool true) := by
  have hb : (fnAt P1 35).body.drop 32 = stAt (fnAt P1 35) 32 :: stAt (fnAt P1 35) 33 :: stAt (fnAt P1 35) 34 :: stAt (fnAt P1 35) 35 :: stAt (fnAt P1 35) 36 :: stAt (fnAt P1 35) 37 :: stAt (fnAt P1 35) 38 :: stAt (fnAt P1 35) 39 :: (fnAt P1 35).body.drop 40 := rfl
  rw [hb]
  conv in stAt (fnAt P1 35) 32 => whnf
  conv in stAt (fnAt P1 35) 33 => whnf
  conv in stAt (fnAt P1 35) 34 => whnf
  conv in stAt (fnAt P1 35) 35 => whnf
  conv in stAt (fnAt P1 35) 36 => whnf
  conv in stAt (fnAt P1 35) 37 => whnf
  conv in stAt (fnAt P1 35) 38 => whnf
  conv in stAt (fnAt P1 35) 39 => whnf
  have ft := K.twin
  have hz := H.small
  have hpl := ev_plain (j + 2) tw 9 0 (by decide) (by unfold line; (first | lia | omega))
  rw [plainF_zero] at hpl
  have eb : (plain tw == plain tw) = true := beq_self_eq_true _
  have t5 : ∀ l, typD (.bytes l) = .ok (.typ "bytes") := fun _ => rfl
  have hlen := plain_len tw
  have hL : (plain tw).length ≤ line := by unfold line; (first | lia | omega)
  have ht : 1 ≤ 1 + x16 % 255 ∧ 1 + x16 % 255 < 256 := by (first | lia | omega)
  have fin : ∀ rho' sh, Know rho' i tw sn hc0 hr0 bt l cn → look rho' (Str.ofString "shown") = some (.bytes sh) → Dis tw sh → execs (C1 (j + 4) 35) 60 ⟨rho', none⟩ ((fnAt P1 35).body.drop 40) = .ret (.bool true) := fun rho' sh K' q d => law_Y j rho' i tw bd nm_ ot sn hc0 hr0 bt l cn sh K' H q d
  generalize hrest : (fnAt P1 35).body.drop 40 = rest at fin
  -- the state ahead of the harm
  have K1 := ((((K.put "raw" (.bytes (plain tw)) (by decide)).put "harm" (.int (x14 % 6)) (by decide)).put "where" (.int x15) (by decide)).put "turn" (.int (1 + x16 % 255)) (by decide)).put "shown" (.bytes (plain tw)) (by decide)
  by_cases h3 : x14 % 6 = 3
  · have a3 : (x14 % 6 == 3) = true := by rw [h3]; rfl
    obtain ⟨p, hp⟩ : ∃ p : Nat, (if x15 % 15 > 11 then x15 % 15 + 5 else x15 % 15) % ((plain tw).length : Int) = p := ⟨((if x15 % 15 > 11 then x15 % 15 + 5 else x15 % 15) % ((plain tw).length : Int)).toNat, by
      have := Int.emod_nonneg (if x15 % 15 > 11 then x15 % 15 + 5 else x15 % 15) (show ((plain tw).length : Int) ≠ 0 by (first | lia | omega))
      (first | lia | omega)⟩
    have hpl2 : p < (plain tw).length := by
      have := Int.emod_lt_of_pos (if x15 % 15 > 11 then x15 % 15 + 5 else x15 % 15) (show (0 : Int) < (plain tw).length by (first | lia | omega))
      (first | lia | omega)
    have hp2 : p < 12 ∨ (17 ≤ p ∧ p ≤ 19) := by
      by_cases he : tw = []
      · subst he
        have : (plain []).length = 12 := rfl
        (first | lia | omega)
      · have h20 : 20 ≤ (plain tw).length := by
          obtain ⟨c, r, rfl⟩ := List.exists_cons_of_ne_nil he
          have : (encs (c :: r)).length = (encC 0 c).length + (encs r).length := by simp [encs]
          rw [enc_len 0 c (H.good c List.mem_cons_self)] at this
          (first | lia | omega)
        have hq : 0 ≤ x15 % 15 ∧ x15 % 15 < 15 := by (first | lia | omega)
        by_cases q : x15 % 15 > 11
        · rw [if_pos q, Int.emod_eq_of_lt (by (first | lia | omega)) (by (first | lia | omega))] at hp; (first | lia | omega)
        · rw [if_neg q, Int.emod_eq_of_lt (by (first | lia | omega)) (by (first | lia | omega))] at hp; (first | lia | omega)
    have w1 := ev_place (j + 3) x15 ((plain tw).length) (by (first | lia | omega))
    rw [hp] at w1
    have w2 := ev_turned (j + 3) (plain tw) p (1 + x16 % 255) hpl2 (by unfold line; (first | lia | omega))
    have fin' := fin _ _ (K1.put "shown" (.bytes ((plain tw).take p ++ [byte ((rd (plain tw) p + (1 + x16 % 255)) % 256)] ++ (plain tw).drop (p + 1))) (by decide)) (by rw [lp_str, if_pos rfl]; rfl)
      (dis_turned tw p (byte ((rd (plain tw) p + (1 + x16 % 255)) % 256)) H.good hz hpl2 hp2 (by
        rw [byte_toNat _ (mod_in _)]
        have := rd_in (plain tw) p
        (first | lia | omega)))
    unfold C1 at fin' ⊢
    simp +decide only [getR_some, get_n, set_n, bind_ok, e_const, e_name, e_bin, e_call, e_subC, es_nil, es_cons, c_int, b_add, b_mod, m_eq, m_ne, eqR_some, neR_some, q_int, q_bytes, isB, isF, k_len, k_type, len_b, t_not, notR_t, t_cmp, ch_one, ss_nil, ss_cons, seq_next, s_if, ifO_t, ifO_f, asgO_ok, ofS_some, a_name, Bool.and_true, Bool.not_true, beq_self_eq_true, lm_one, ns_nil, ns_cons, bm_Name, ns_Name, bm_Constant, ns_Constant, ns_Call, m_isT, idxR_some, x_lst, and_self, Int.reduceLE, Int.reduceLT, Int.reduceToNat, s_asgNm, s_asgB, s_asgK, s_asgS, u35_0, u35_42, u35_44, u35_46, u35_47, u35_48, u35_49, u35_50, u35_51, u35_52, u35_53, u35_55, bb27, u35_69, bb16, u35_82, bb35, u35_88, gg3, u35_89, bb20, u35_96, bb15, u35_105, ft, f0, f6, s14, s15, s16, hpl, t5, hL, a3, w1, w2, lp_hit, lp_miss]
    exact fin'
  · have a3 : (x14 % 6 == 3) = false := beq_false_of_ne h3
    by_cases h4 : x14 % 6 = 4
    · have a4 : (x14 % 6 == 4) = true := by rw [h4]; rfl
      have w1 := ev_plain (j + 2) tw (x15 % 3) (1 + x16 % 255) (by (first | lia | omega)) (by unfold line; (first | lia | omega))
      have fin' := fin _ _ (K1.put "shown" (.bytes (plainF (x15 % 3) (1 + x16 % 255) tw)) (by decide)) (by rw [lp_str, if_pos rfl]) (dis_dirt tw _ _ (by (first | lia | omega)) H.good (by (first | lia | omega)))
      unfold C1 at fin' ⊢
      simp +decide only [getR_some, get_n, set_n, bind_ok, e_const, e_name, e_bin, e_call, e_subC, es_nil, es_cons, c_int, b_add, b_mod, m_eq, m_ne, eqR_some, neR_some, q_int, q_bytes, isB, isF, k_type, t_not, notR_t, t_cmp, ch_one, ss_nil, ss_cons, seq_next, s_if, ifO_t, ifO_f, asgO_ok, ofS_some, a_name, Bool.and_true, Bool.not_true, beq_self_eq_true, lm_one, ns_nil, ns_cons, bm_Name, ns_Name, bm_Constant, ns_Constant, ns_BinOp, m_isT, idxR_some, x_lst, and_self, Int.reduceLE, Int.reduceLT, Int.reduceToNat, s_asgNm, s_asgB, s_asgK, s_asgS, u35_0, u35_42, u35_44, u35_46, u35_47, u35_48, u35_49, u35_50, u35_51, u35_52, u35_53, u35_55, bb16, u35_82, bb35, u35_88, gg3, u35_89, ft, f0, f6, s14, s15, s16, hpl, t5, a3, a4, w1, lp_hit, lp_miss]
      exact fin'
    · have a4 : (x14 % 6 == 4) = false := beq_false_of_ne h4
      by_cases h5 : x14 % 6 = 5
      · have a5 : (x14 % 6 == 5) = true := by rw [h5]; rfl
        obtain ⟨kp, hkp⟩ : ∃ kp : Nat, ((plain tw).length : Int) + 7 - x15 % 20 = kp := ⟨(((plain tw).length : Int) + 7 - x15 % 20).toNat, by (first | lia | omega)⟩
        have w1 := ev_four (j + 3) ((kp : Int) - 8)
        have c1 : cut (plain tw) (some 8) none = wave ++ encs tw := (cut_drop (plain tw) 8).trans (plain_drop8 tw)
        have l1 : 8 + (4 + (encs tw).length) ≤ line := by unfold line; (first | lia | omega)
        have l2 : 8 + (4 + (encs tw).length) + 7 ≤ line := by unfold line; (first | lia | omega)
        have l3 : 4 + (4 + (encs tw).length) + 1 + 1 + 1 + 1 + 7 ≤ line := by unfold line; (first | lia | omega)
        have l4 : 4 + (4 + (encs tw).length) + 7 + 1 + 1 + 1 + 1 ≤ line := by unfold line; (first | lia | omega)
        have e1 : ([82, 73, 70, 70] : List UInt8) ++ le4 ((kp : Int) - 8) ++ (wave ++ encs tw) ++ [49, 50, 51, 52, 53, 54, 55] = mk ((kp : Int) - 8) wave (encs tw ++ junk) := by
          unfold mk riff junk
          simp only [List.append_assoc]
        have fin' := fin _ _ ((K1.put "keep" (.int kp) (by decide)).put "shown" (.bytes ((mk ((kp : Int) - 8) wave (encs tw ++ junk)).take kp)) (by decide)) (by rw [lp_str, if_pos rfl]) (dis_cut tw kp _ rfl H.good (by (first | lia | omega)) (by (first | lia | omega)))
        rw [← e1, ← cut_take] at fin'
        unfold C1 at fin' ⊢
        simp +decide only [getR_some, get_n, set_n, bind_ok, e_const, e_name, e_bin, e_call, e_slice, e_subC, es_nil, es_cons, o_none, o_some, part_none, part_int, c_int, c_bytes, b_add, b_sub, b_mod, b_cat, m_eq, m_ne, eqR_some, neR_some, q_int, q_bytes, isB, isF, k_len, k_type, len_b, t_not, notR_t, t_cmp, ch_one, ss_nil, ss_cons, seq_next, s_if, ifO_t, ifO_f, asgO_ok, ofS_some, a_name, Bool.and_true, Bool.not_true, beq_self_eq_true, lm_one, ns_nil, ns_cons, bm_Name, ns_Name, bm_Constant, ns_Constant, ns_BinOp, List.length_cons, List.length_nil, List.length_append, Nat.reduceAdd, Nat.zero_add, m_isT, idxR_some, x_lst, cut_b, and_self, List.nil_append, List.cons_append, Int.reduceLE, Int.reduceLT, Int.reduceToNat, s_asgNm, s_asgB, s_asgK, s_asgS, u35_0, u35_42, u35_44, u35_46, u35_47, u35_48, u35_49, u35_50, u35_51, u35_53, u35_55, u35_56, u35_57, bb27, u35_69, bb9, u35_80, bb16, u35_82, bb35, u35_88, gg3, u35_89, ft, f0, f6, s14, s15, s16, hpl, t5, hL, a3, a4, a5, hkp, w1, c1, l1, l3, le4_len, wave_len, lp_hit, lp_miss]
        exact fin'
      · have a5 : (x14 % 6 == 5) = false := beq_false_of_ne h5
        have fin' := fin _ _ K1 (by rw [lp_str, if_pos rfl]) (.inl ⟨tw.length, Nat.le_refl _, by rw [List.take_length]⟩)
        unfold C1 at fin' ⊢
        simp +decide only [getR_some, get_n, set_n, bind_ok, e_const, e_name, e_bin, e_call, e_subC, es_nil, es_cons, c_int, b_add, b_mod, m_eq, m_ne, eqR_some, neR_some, q_int, q_bytes, isB, isF, k_type, t_not, notR_t, t_cmp, ch_one, ss_nil, ss_cons, seq_next, s_if, ifO_f, asgO_ok, ofS_some, a_name, Bool.and_true, Bool.not_true, beq_self_eq_true, lm_one, ns_nil, ns_cons, bm_Name, ns_Name, bm_Constant, ns_Constant, m_isT, idxR_some, x_lst, and_self, Int.reduceLE, Int.reduceLT, Int.reduceToNat, s_asgNm, s_asgB, s_asgK, s_asgS, u35_0, u35_42, u35_44, u35_46, u35_47, u35_48, u35_49, u35_51, u35_53, u35_55, bb16, u35_82, bb35, u35_88, gg3, u35_89, ft, f0, f6, s14, s15, s16, hpl, t5, a3, a4, a5, lp_hit, lp_miss]
        exact fin'
end
end Mine
namespace Mine
section
open PySem

noncomputable def lb (seed size : Int) : List UInt8 := (List.range size.toNat).map fun (i : Nat) => byte ((seed + 37 * (i : Int)) % 256)
theorem lb_len (seed size : Int) : (lb seed size).length = size.toNat := by unfold lb; simp
theorem Fk_nat {P : Pg} {k : Nat} {x : Str} {ds : List D} {g : List D → R D} (h : P.nat.lookup x = some g) : Fk P (k + 1) x ds = g ds := by
  unfold Fk
  rw [h]
theorem ev_lb (k : Nat) (seed size : Int) (h : 0 ≤ size ∧ size ≤ 1000) : Fk Q1 (k + 1) (Str.ofString "_law_bytes") [.int seed, .int size] = .ok (.bytes (lb seed size)) := by
  rw [Fk_nat (by rw [nat_Q1, if_pos rfl])]
  show (if 0 ≤ size ∧ size ≤ 1000 then _ else _) = _
  rw [if_pos h]
  rfl
theorem encs_bound (m : Nat) : ∀ (cs : List Ch), (∀ c ∈ cs, c.1.length + c.2.length ≤ m) → (encs cs).length ≤ cs.length * (m + 5)
  | [], _ => Nat.zero_le _
  | c :: cs, h => by
    have e : (encs (c :: cs)).length = (encC 0 c).length + (encs cs).length := by simp [encs]
    have h1 := h c List.mem_cons_self
    have h2 := encs_bound m cs fun x hx => h x (List.mem_cons_of_mem _ hx)
    rw [e, encC_len, List.length_cons, Nat.add_mul]
    (first | lia | omega)

theorem law_W (j : Nat) (rho : List (Str × D)) (bd : List UInt8) (sn : Bool) (hc0 hr0 bt sd : Int) (l cn : List UInt8) (S : List D) (x : Nat → Int) (hS : ∀ i, i < 17 → S[i]? = some (.int (x i)))
    (f0 : look rho (Str.ofString "script") = some (.lst S)) (f1 : look rho (Str.ofString "body") = some (.bytes bd)) (f2 : look rho (Str.ofString "samples") = some (.bytes l)) (f3 : look rho (Str.ofString "seed") = some (.int sd)) (f4 : look rho (Str.ofString "sane") = some (.bool sn))
    (f5 : look rho (Str.ofString "heard") = some (.tup [.int hc0, .int hr0, .int bt])) (f6 : look rho (Str.ofString "canon") = some (.bytes cn)) (hbd : bd.length ≤ 18) (hl : l.length ≤ 30)
    (F1 : sn = true → fok hc0 hr0 bt = true → ∀ k, Fk Q1 (k + 2) (Str.ofString "read_format") [.bytes bd] = .ok (.tup [.int hc0, .int hr0, .int bt])) (F2 : ¬ (sn = true ∧ fok hc0 hr0 bt = true) → ∀ k, Fk Q1 (k + 2) (Str.ofString "read_format") [.bytes bd] = .raise)
    (save : fok hc0 hr0 bt = true ∧ (l.length : Int) % (hc0 * bt / 8) = 0 → ∀ k, Fk Q1 (k + 4) (Str.ofString "_law_save") [.tup [.int hc0, .int hr0, .int bt], .bytes l] = .ok (.bytes cn)) :
    execs (C1 (j + 4) 35) 76 ⟨rho, none⟩ ((fnAt P1 35).body.drop 24) = .ret (.bool true) := by
  have hb : (fnAt P1 35).body.drop 24 = stAt (fnAt P1 35) 24 :: stAt (fnAt P1 35) 25 :: stAt (fnAt P1 35) 26 :: stAt (fnAt P1 35) 27 :: stAt (fnAt P1 35) 28 :: stAt (fnAt P1 35) 29 :: stAt (fnAt P1 35) 30 :: stAt (fnAt P1 35) 31 :: (fnAt P1 35).body.drop 32 := rfl
  rw [hb]
  conv in stAt (fnAt P1 35) 24 => whnf
  conv in stAt (fnAt P1 35) 25 => whnf
  conv in stAt (fnAt P1 35) 26 => whnf
  conv in stAt (fnAt P1 35) 27 => whnf
  conv in stAt (fnAt P1 35) 28 => whnf
  conv in stAt (fnAt P1 35) 29 => whnf
  conv in stAt (fnAt P1 35) 30 => whnf
  conv in stAt (fnAt P1 35) 31 => whnf
  have s7 := hS 7 (by decide)
  have s8 := hS 8 (by decide)
  have s9 := hS 9 (by decide)
  have s14 := hS 14 (by decide)
  have s15 := hS 15 (by decide)
  have s16 := hS 16 (by decide)
  obtain ⟨i, hi, hi2⟩ : ∃ i : Nat, i < 12 ∧ (x 7 % 12).toNat = i := ⟨(x 7 % 12).toNat, by (first | lia | omega), rfl⟩
  obtain ⟨q, hq, hq2⟩ : ∃ q : Nat, q < 8 ∧ (x 8 % 8).toNat = q := ⟨(x 8 % 8).toNat, by (first | lia | omega), rfl⟩
  have w1 : Fk Q1 (j + 4) (Str.ofString "_law_pick") [.int (x 7), tabAt P1 17] = .ok (.str (shapeAt i)) := by
    rw [tab_shapes, ev_pick (j + 3) (x 7) (shapes.map D.str) (by decide) (by decide)]
    show R.ok ((shapes.map D.str).getD (x 7 % 12).toNat .none) = _
    rw [hi2, List.getD_eq_getElem?_getD, List.getElem?_map]
    unfold shapeAt
    rw [List.getD_eq_getElem?_getD, List.getElem?_eq_getElem (show i < shapes.length from hi)]
    rfl
  have w2 := ev_nm (j + 3) (x 8)
  rw [hq2] at w2
  have nq := nm_names q hq
  generalize hnm : nm.getD q [] = nm_ at w2 nq
  have w3 := ev_lb (j + 3) (sd + 1) (x 9 % 4) (by (first | lia | omega))
  have hot : (lb (sd + 1) (x 9 % 4)).length ≤ 3 := by rw [lb_len]; (first | lia | omega)
  generalize hog : lb (sd + 1) (x 9 % 4) = ot at w3 hot
  have sl := shape_len i hi
  have w4 := ev_lchunks (j + 2) (shapeAt i) bd l nm_ ot (shape_ascii i hi) (by have : (shapeAt i).cps.size = (shapeAt i).length := rfl; (first | lia | omega))
  rw [shape_code i hi] at w4
  have hx := shape_has i hi
  have hnl : nm_.length ≤ line := by unfold line; (first | lia | omega)
  have ec := eq_chunks ((codeAt i).map (chOf bd l nm_ ot))
  have hbnd : ∀ c ∈ (codeAt i).map (chOf bd l nm_ ot), c.1.length + c.2.length ≤ 34 ∧ c.1.length < 16777216 ∧ c.2.length < 16777216 := by
    intro c hc
    obtain ⟨a, _, rfl⟩ := List.mem_map.mp hc
    unfold chOf
    have e1 : fmtN.length = 4 := rfl
    have e2 : dataN.length = 4 := rfl
    split
    · dsimp only; (first | lia | omega)
    · split <;> dsimp only <;> (first | lia | omega)
  have hz : (encs ((codeAt i).map (chOf bd l nm_ ot))).length < 200 := by
    have := encs_bound 34 _ fun c hc => (hbnd c hc).1
    rw [List.length_map] at this
    have h4 : (codeAt i).length * (34 + 5) ≤ 4 * 39 := Nat.mul_le_mul_right _ sl.2
    (first | lia | omega)
  have hgood : (120 ∈ codeAt i → nm_.length = 4) → ∀ c ∈ (codeAt i).map (chOf bd l nm_ ot), Good c := by
    intro h4 c hc
    have hb := hbnd c hc
    obtain ⟨a, ha, rfl⟩ := List.mem_map.mp hc
    refine ⟨?_, hb.2.2⟩
    unfold chOf
    split
    · rfl
    · split
      · rfl
      · rcases shape_all i hi a ha with rfl | rfl | rfl
        · contradiction
        · contradiction
        · exact h4 ha
  by_cases hbad : 120 ∈ codeAt i ∧ nm_.length ≠ 4
  · have w5 := ev_join_no (j + 2) _ (ev_wc_bad (j + 1) ((codeAt i).map (chOf bd l nm_ ot)) ⟨chOf bd l nm_ ot 120, List.mem_map.mpr ⟨120, hbad.1, rfl⟩, hbad.2⟩ (fun c hc => (hbnd c hc).2) (by rw [List.length_map]; (first | lia | omega)))
    rw [decide_eq_true hbad.1] at hx
    have a1 : (((nm_.length : Nat) : Int) == 4) = false := by have := hbad.2; simp; (first | lia | omega)
    have rf : (Str.ofString "refused" == Str.ofString "refused") = true := beq_self_eq_true _
    unfold C1
    simp +decide only [getR_some, get_n, set_n, bind_ok, e_const, e_name, e_bin, e_call, e_subC, es_nil, es_cons, c_int, c_str, c_bool, b_add, b_mod, m_ne, neR_some, q_int, q_str, isB, isF, k_len, len_b, t_bool, ts_andN, ts_and, andO_t, t_cmp, ch_one, ss_nil, ss_cons, seq_next, seq_ret, s_if, ifO_t, ifO_f, s_ret, retO_ok, asgO_ok, ofS_some, a_name, Bool.and_true, Bool.not_true, Bool.not_false, beq_self_eq_true, lm_one, ns_nil, ns_cons, bm_Name, ns_Name, bm_Constant, ns_BinOp, ns_Subscript, m_inS, idxR_some, x_lst, and_self, Int.reduceLE, Int.reduceLT, Int.reduceToNat, s_asgK, u35_0, u35_16, u35_18, u35_30, u35_34, u35_35, u35_36, u35_37, u35_38, u35_39, u35_40, u35_41, u35_42, u35_43, u35_44, u35_45, bb27, u35_69, bb14, u35_71, bb6, u35_76, gg7, u35_97, bb11, u35_99, bb7, u35_101, bb10, u35_103, f0, f1, f2, f3, s7, s8, s9, w1, w2, w3, w4, w5, ec, hx, hnl, a1, lp_hit, lp_miss]
  · have h4 : 120 ∈ codeAt i → nm_.length = 4 := fun q => Decidable.byContradiction fun z => hbad ⟨q, z⟩
    have hg := hgood h4
    have w5 := ev_join_ok (j + 2) _ _ (ev_wc (j + 1) ((codeAt i).map (chOf bd l nm_ ot)) hg (by rw [List.length_map]; (first | lia | omega)) (by unfold line; (first | lia | omega)))
    have H : Sound i ((codeAt i).map (chOf bd l nm_ ot)) bd nm_ ot sn hc0 hr0 bt l cn := ⟨hi, rfl, nq.1, nq.2.1, hg, hz, by (first | lia | omega), F1, F2, save⟩
    have fin : ∀ rho', Know rho' i ((codeAt i).map (chOf bd l nm_ ot)) sn hc0 hr0 bt l cn → look rho' (Str.ofString "script") = some (.lst S) → look rho' (Str.ofString "made") = some (.bytes (plain ((codeAt i).map (chOf bd l nm_ ot)))) → execs (C1 (j + 4) 35) 68 ⟨rho', none⟩ ((fnAt P1 35).body.drop 32) = .ret (.bool true) :=
      fun rho' K q1 q2 => law_X j rho' i _ bd nm_ ot sn hc0 hr0 bt l cn K H S _ _ _ q1 s14 s15 s16 q2
    generalize hrest : (fnAt P1 35).body.drop 32 = rest at fin
    unfold C1 at fin ⊢
    by_cases h120 : 120 ∈ codeAt i
    · rw [decide_eq_true h120] at hx
      have a1 : (((nm_.length : Nat) : Int) == 4) = true := by rw [h4 h120]; rfl
      simp +decide only [getR_some, get_n, set_n, bind_ok, e_const, e_name, e_bin, e_call, e_subC, es_nil, es_cons, c_int, c_str, b_add, b_mod, m_ne, neR_some, q_int, isB, isF, k_len, len_b, t_bool, ts_and, andO_t, andO_f, t_cmp, ch_one, ss_nil, ss_cons, seq_next, s_if, ifO_f, asgO_ok, ofS_some, a_name, Bool.and_true, Bool.not_true, lm_one, ns_nil, ns_cons, bm_Name, ns_Name, bm_Constant, ns_BinOp, ns_Subscript, m_inS, idxR_some, x_lst, and_self, Int.reduceLE, Int.reduceLT, Int.reduceToNat, s_asgK, u35_0, u35_16, u35_18, u35_30, u35_34, u35_35, u35_36, u35_37, u35_38, u35_39, u35_40, u35_41, u35_42, u35_43, u35_45, bb27, u35_69, bb14, u35_71, bb6, u35_76, gg7, u35_97, bb11, u35_99, bb7, u35_101, bb10, u35_103, f0, f1, f2, f3, s7, s8, s9, w1, w2, w3, w4, w5, ec, hx, hnl, a1, lp_hit, lp_miss]
      refine fin _ ⟨?_, ?_, ?_, ?_, ?_, ?_⟩ ?_ ?_ <;> simp +decide only [f0, f2, f4, f5, f6, lp_hit, lp_miss]
    · rw [decide_eq_false h120] at hx
      simp +decide only [getR_some, get_n, set_n, bind_ok, e_const, e_name, e_bin, e_call, e_subC, es_nil, es_cons, c_int, c_str, b_add, b_mod, m_ne, neR_some, isF, t_bool, ts_and, andO_f, t_cmp, ch_one, ss_nil, ss_cons, seq_next, s_if, ifO_f, asgO_ok, ofS_some, a_name, Bool.and_true, Bool.not_true, lm_one, ns_nil, ns_cons, bm_Name, ns_Name, ns_BinOp, ns_Subscript, m_inS, idxR_some, x_lst, and_self, Int.reduceLE, Int.reduceLT, Int.reduceToNat, s_asgK, u35_0, u35_16, u35_18, u35_30, u35_34, u35_35, u35_36, u35_37, u35_38, u35_39, u35_40, u35_41, u35_42, u35_43, u35_45, bb14, u35_71, bb6, u35_76, gg7, u35_97, bb11, u35_99, bb7, u35_101, bb10, u35_103, f0, f1, f2, f3, s7, s8, s9, w1, w2, w3, w4, w5, ec, hx, lp_hit, lp_miss]
      refine fin _ ⟨?_, ?_, ?_, ?_, ?_, ?_⟩ ?_ ?_ <;> simp +decide only [f0, f2, f4, f5, f6, lp_hit, lp_miss]
end
end Mine
namespace Mine
section
open PySem

theorem rf_ok {c r b : Int} (H : Heard c r b) (ext : List UInt8) (he : ext.length ≤ 2) (h : fok c r b = true) (k : Nat) : Fk Q1 (k + 2) (Str.ofString "read_format") [.bytes (hd c r b (c * b / 8) ++ ext)] = .ok (.tup [.int c, .int r, .int b]) := by
  rw [ev_rf_ok k _ (by rw [List.length_append, hd_len]; unfold line; (first | lia | omega)) (rf_head H ext h), hd_u2 _ _ _ _ _ H.c, hd_u4 _ _ _ _ _ H.r, hd_u14 _ _ _ _ _ H.b]
theorem rf_no {c r b : Int} (H : Heard c r b) (f : Int) (ext : List UInt8) (he : ext.length ≤ 2) (h : fok c r b = false) (k : Nat) : Fk Q1 (k + 2) (Str.ofString "read_format") [.bytes (hd c r b f ++ ext)] = .raise :=
  ev_rf_no k _ (by rw [List.length_append, hd_len]; (first | lia | omega)) (by rw [List.length_append, hd_len]; unfold line; (first | lia | omega)) (rf_head_no H f ext h)

theorem law_V (j : Nat) (rho : List (Str × D)) (hc0 hr0 bt sd : Int) (Hd : Heard hc0 hr0 bt) (l cn : List UInt8) (S : List D) (x : Nat → Int) (hS : ∀ i, i < 17 → S[i]? = some (.int (x i)))
    (f0 : look rho (Str.ofString "script") = some (.lst S)) (f1 : look rho (Str.ofString "head") = some (.bytes (hd hc0 hr0 bt (hc0 * bt / 8)))) (f2 : look rho (Str.ofString "samples") = some (.bytes l)) (f3 : look rho (Str.ofString "seed") = some (.int sd))
    (f5 : look rho (Str.ofString "heard") = some (.tup [.int hc0, .int hr0, .int bt])) (f6 : look rho (Str.ofString "canon") = some (.bytes cn)) (hl : l.length ≤ 30)
    (save : fok hc0 hr0 bt = true ∧ (l.length : Int) % (hc0 * bt / 8) = 0 → ∀ k, Fk Q1 (k + 4) (Str.ofString "_law_save") [.tup [.int hc0, .int hr0, .int bt], .bytes l] = .ok (.bytes cn)) :
    execs (C1 (j + 4) 35) 82 ⟨rho, none⟩ ((fnAt P1 35).body.drop 18) = .ret (.bool true) := by
  have hb : (fnAt P1 35).body.drop 18 = stAt (fnAt P1 35) 18 :: stAt (fnAt P1 35) 19 :: stAt (fnAt P1 35) 20 :: stAt (fnAt P1 35) 21 :: stAt (fnAt P1 35) 22 :: stAt (fnAt P1 35) 23 :: (fnAt P1 35).body.drop 24 := rfl
  rw [hb]
  conv in stAt (fnAt P1 35) 18 => whnf
  conv in stAt (fnAt P1 35) 19 => whnf
  conv in stAt (fnAt P1 35) 20 => whnf
  conv in stAt (fnAt P1 35) 21 => whnf
  conv in stAt (fnAt P1 35) 22 => whnf
  conv in stAt (fnAt P1 35) 23 => whnf
  have s10 := hS 10 (by decide)
  have s11 := hS 11 (by decide)
  have s12 := hS 12 (by decide)
  have s13 := hS 13 (by decide)
  have w3 := ev_lb (j + 3) (sd + 5) (x 11 % 3) (by (first | lia | omega))
  have hel : (lb (sd + 5) (x 11 % 3)).length ≤ 2 := by rw [lb_len]; (first | lia | omega)
  generalize hog : lb (sd + 5) (x 11 % 3) = ext at w3 hel
  have l1 : 16 + ext.length ≤ line := by unfold line; (first | lia | omega)
  have l0 : 16 ≤ line := by decide
  obtain ⟨p, hp, hp2⟩ : ∃ p : Nat, p < 16 ∧ x 12 % 16 = p := ⟨(x 12 % 16).toNat, by (first | lia | omega), by (first | lia | omega)⟩
  have ht : 1 ≤ 1 + x 13 % 255 ∧ 1 + x 13 % 255 < 256 := by (first | lia | omega)
  have hsok := ev_sok (j + 3) hc0 hr0 bt
  have fin : ∀ rho' bd sn, look rho' (Str.ofString "script") = some (.lst S) → look rho' (Str.ofString "body") = some (.bytes bd) → look rho' (Str.ofString "samples") = some (.bytes l) → look rho' (Str.ofString "seed") = some (.int sd) → look rho' (Str.ofString "sane") = some (.bool sn) →
      look rho' (Str.ofString "heard") = some (.tup [.int hc0, .int hr0, .int bt]) → look rho' (Str.ofString "canon") = some (.bytes cn) → bd.length ≤ 18 →
      (sn = true → fok hc0 hr0 bt = true → ∀ k, Fk Q1 (k + 2) (Str.ofString "read_format") [.bytes bd] = .ok (.tup [.int hc0, .int hr0, .int bt])) → (¬ (sn = true ∧ fok hc0 hr0 bt = true) → ∀ k, Fk Q1 (k + 2) (Str.ofString "read_format") [.bytes bd] = .raise) →
      execs (C1 (j + 4) 35) 76 ⟨rho', none⟩ ((fnAt P1 35).body.drop 24) = .ret (.bool true) := fun rho' bd sn g0 g1 g2 g3 g4 g5 g6 g7 F1 F2 => law_W j rho' bd sn hc0 hr0 bt sd l cn S x hS g0 g1 g2 g3 g4 g5 g6 g7 hl F1 F2 save
  generalize hrest : (fnAt P1 35).body.drop 24 = rest at fin
  unfold C1 at fin ⊢
  have hd16 := hd_len hc0 hr0 bt (hc0 * bt / 8)
  by_cases h4 : x 10 % 5 = 4
  · have a4 : (x 10 % 5 == 4) = true := by rw [h4]; rfl
    have a3 : (x 10 % 5 == 3) = false := by rw [h4]; rfl
    have c2 : cut (hd hc0 hr0 bt (hc0 * bt / 8)) (some ((p : Int) + 1)) none = (hd hc0 hr0 bt (hc0 * bt / 8)).drop (p + 1) := cut_drop _ (p + 1)
    have l3 : ((hd hc0 hr0 bt (hc0 * bt / 8)).take p).length + ((hd hc0 hr0 bt (hc0 * bt / 8)).drop (p + 1)).length ≤ line := by rw [List.length_take, List.length_drop, hd16]; unfold line; (first | lia | omega)
    have hsh : ((hd hc0 hr0 bt (hc0 * bt / 8)).take p ++ (hd hc0 hr0 bt (hc0 * bt / 8)).drop (p + 1)).length < 16 := by rw [List.length_append, List.length_take, List.length_drop, hd16]; (first | lia | omega)
    simp +decide only [getR_some, get_n, set_n, bind_ok, e_const, e_name, e_bin, e_call, e_slice, e_subC, es_nil, es_cons, o_none, o_some, part_none, part_int, c_int, c_bool, b_add, b_mod, b_cat, m_eq, eqR_some, q_int, isF, t_bool, ts_and, andO_f, t_cmp, ch_one, ss_nil, ss_cons, seq_next, s_if, ifO_t, ifO_f, asgO_ok, ofS_some, a_name, Bool.and_true, lm_one, ns_nil, ns_cons, bm_Constant, ns_BinOp, idxR_some, x_lst, cut_b, and_self, Int.reduceLE, Int.reduceLT, Int.reduceToNat, s_asgC, s_asgB, u35_0, u35_16, u35_20, u35_26, u35_27, u35_28, u35_29, u35_31, u35_33, bb6, u35_76, f0, f1, f3, s10, s11, s12, w3, l1, l0, hd16, a3, a4, hp2, cut_take, c2, l3, lp_hit, lp_miss]
    refine fin _ ((hd hc0 hr0 bt (hc0 * bt / 8)).take p ++ (hd hc0 hr0 bt (hc0 * bt / 8)).drop (p + 1)) false ?_ ?_ ?_ ?_ ?_ ?_ ?_ (by (first | lia | omega)) (fun q => by cases q) (fun _ k => ev_rf_short k _ hsh) <;> simp +decide only [f0, f2, f3, f5, f6, lp_hit, lp_miss]
  · have a4 : (x 10 % 5 == 4) = false := beq_false_of_ne h4
    have hb18 : (hd hc0 hr0 bt (hc0 * bt / 8) ++ ext).length ≤ 18 := by rw [List.length_append, hd16]; (first | lia | omega)
    by_cases h3 : x 10 % 5 = 3 ∧ fok hc0 hr0 bt = true
    · have a3 : (x 10 % 5 == 3) = true := by rw [h3.1]; rfl
      have a5 := h3.2
      have hpl : p < (hd hc0 hr0 bt (hc0 * bt / 8) ++ ext).length := by rw [List.length_append, hd16]; (first | lia | omega)
      have w4 : Fk Q1 (j + 4) (Str.ofString "_law_turned") [.bytes (hd hc0 hr0 bt (hc0 * bt / 8) ++ ext), .int p, .int (1 + x 13 % 255)] = .ok (.bytes (turned (hd hc0 hr0 bt (hc0 * bt / 8) ++ ext) p (byte ((rd (hd hc0 hr0 bt (hc0 * bt / 8) ++ ext) p + (1 + x 13 % 255)) % 256)))) := ev_turned (j + 3) (hd hc0 hr0 bt (hc0 * bt / 8) ++ ext) p (1 + x 13 % 255) hpl (by unfold line; (first | lia | omega))
      simp +decide only [getR_some, get_n, set_n, bind_ok, e_const, e_name, e_bin, e_call, e_subC, es_nil, es_cons, c_int, c_bool, b_add, b_mod, b_cat, m_eq, eqR_some, q_int, isF, t_bool, ts_andN, ts_and, andO_t, t_cmp, ch_one, t_call, boolD_b, ss_nil, ss_cons, seq_next, s_if, ifO_t, ifO_f, asgO_ok, ofS_some, a_name, Bool.and_true, lm_one, ns_nil, ns_cons, ns_Name, bm_Constant, ns_BinOp, idxR_some, x_lst, and_self, Int.reduceLE, Int.reduceLT, Int.reduceToNat, s_asgC, s_asgB, s_asgK, u35_0, u35_10, u35_16, u35_20, u35_26, u35_27, u35_28, u35_29, u35_30, u35_31, u35_33, bb6, u35_76, bb18, u35_94, bb20, u35_96, f0, f1, f3, f5, s10, s11, s12, s13, w3, l1, hd16, a3, a4, a5, hp2, hsok, w4, lp_hit, lp_miss]
      refine fin _ (turned (hd hc0 hr0 bt (hc0 * bt / 8) ++ ext) p (byte ((rd (hd hc0 hr0 bt (hc0 * bt / 8) ++ ext) p + (1 + x 13 % 255)) % 256))) false ?_ ?_ ?_ ?_ ?_ ?_ ?_ (by rw [turned_len _ _ _ hpl]; exact hb18) (fun q => by cases q)
        (fun _ k => ev_rf_no k _ (by rw [turned_len _ _ _ hpl, List.length_append, hd16]; (first | lia | omega)) (by rw [turned_len _ _ _ hpl]; unfold line; (first | lia | omega)) (rf_turned Hd ext h3.2 p hp _ (by
          rw [byte_toNat _ (mod_in _)]
          have := rd_in (hd hc0 hr0 bt (hc0 * bt / 8) ++ ext) p
          (first | lia | omega)))) <;> simp +decide only [f0, f2, f3, f5, f6, lp_hit, lp_miss]
    · have F1 : true = true → fok hc0 hr0 bt = true → ∀ k, Fk Q1 (k + 2) (Str.ofString "read_format") [.bytes (hd hc0 hr0 bt (hc0 * bt / 8) ++ ext)] = .ok (.tup [.int hc0, .int hr0, .int bt]) := fun _ q k => rf_ok Hd ext hel q k
      have F2 : ¬ (true = true ∧ fok hc0 hr0 bt = true) → ∀ k, Fk Q1 (k + 2) (Str.ofString "read_format") [.bytes (hd hc0 hr0 bt (hc0 * bt / 8) ++ ext)] = .raise := fun q k => rf_no Hd _ ext hel (by
        cases z : fok hc0 hr0 bt with
        | false => rfl
        | true => exact absurd ⟨rfl, z⟩ q) k
      cases a3 : (x 10 % 5 == 3) with
      | true =>
        have a5 : fok hc0 hr0 bt = false := by
          cases z : fok hc0 hr0 bt with
          | false => rfl
          | true => exact absurd ⟨eq_of_beq a3, z⟩ h3
        simp +decide only [getR_some, get_n, set_n, bind_ok, e_const, e_name, e_bin, e_call, e_subC, es_nil, es_cons, c_int, c_bool, b_add, b_mod, b_cat, m_eq, eqR_some, q_int, isF, t_bool, ts_and, andO_t, andO_f, t_cmp, ch_one, t_call, boolD_b, ss_nil, ss_cons, seq_next, s_if, ifO_f, asgO_ok, ofS_some, a_name, Bool.and_true, lm_one, ns_nil, ns_cons, ns_Name, bm_Constant, ns_BinOp, idxR_some, x_lst, and_self, Int.reduceLE, Int.reduceLT, Int.reduceToNat, s_asgC, s_asgB, u35_0, u35_10, u35_16, u35_20, u35_26, u35_27, u35_29, u35_31, u35_33, bb6, u35_76, bb18, u35_94, f0, f1, f3, f5, s10, s11, s12, w3, l1, hd16, a3, a4, a5, hp2, hsok, lp_hit, lp_miss]
        refine fin _ _ true ?_ ?_ ?_ ?_ ?_ ?_ ?_ hb18 F1 F2 <;> simp +decide only [f0, f2, f3, f5, f6, lp_hit, lp_miss]
      | false =>
        simp +decide only [getR_some, get_n, set_n, bind_ok, e_const, e_name, e_bin, e_call, e_subC, es_nil, es_cons, c_int, c_bool, b_add, b_mod, b_cat, m_eq, eqR_some, q_int, isF, t_bool, ts_and, andO_f, t_cmp, ch_one, ss_nil, ss_cons, seq_next, s_if, ifO_f, asgO_ok, ofS_some, a_name, Bool.and_true, lm_one, ns_nil, ns_cons, bm_Constant, ns_BinOp, idxR_some, x_lst, and_self, Int.reduceLE, Int.reduceLT, Int.reduceToNat, s_asgC, s_asgB, u35_0, u35_16, u35_20, u35_26, u35_27, u35_29, u35_31, u35_33, bb6, u35_76, f0, f1, f3, s10, s11, s12, w3, l1, hd16, a3, a4, hp2, lp_hit, lp_miss]
        refine fin _ _ true ?_ ?_ ?_ ?_ ?_ ?_ ?_ hb18 F1 F2 <;> simp +decide only [f0, f2, f3, f5, f6, lp_hit, lp_miss]
end
end Mine
namespace Mine
section
open PySem

theorem fold_two (f d : List UInt8) : [(fmtN, f), (dataN, d)].foldl wvStep ([], .none, .none) = ([fmtN, dataN], .bytes f, .bytes d) := by
  have h : ¬ dataN = fmtN := by decide
  simp only [List.foldl_cons, List.foldl_nil, wvStep, if_pos, if_neg h]
  rfl
theorem good_two (f d : List UInt8) (hf : f.length < 16777216) (hd : d.length < 16777216) : ∀ c ∈ [(fmtN, f), (dataN, d)], Good c := by
  intro c hc
  rcases List.mem_cons.mp hc with rfl | hc
  · exact ⟨rfl, hf⟩
  · rcases List.mem_cons.mp hc with rfl | hc
    · exact ⟨rfl, hd⟩
    · cases hc
theorem encs_two_le (f d : List UInt8) (hf : f.length ≤ 16) (hd : d.length ≤ 30) : (encs [(fmtN, f), (dataN, d)]).length ≤ 100 := by
  rw [encs_two, encC_len, encC_len]
  show 4 + 4 + f.length + _ + (4 + 4 + d.length + _) ≤ _
  (first | lia | omega)
theorem law_U2 (j : Nat) (rho : List (Str × D)) (ch rt bt sd : Int) (hbt : 0 ≤ bt ∧ bt ≤ 32) (hch : 0 ≤ ch ∧ ch ≤ 65536) (l : List UInt8) (S : List D) (x : Nat → Int) (hS : ∀ i, i < 17 → S[i]? = some (.int (x i)))
    (f0 : look rho (Str.ofString "script") = some (.lst S)) (f1 : look rho (Str.ofString "sound") = some (.tup [.int ch, .int rt, .int bt])) (f2 : look rho (Str.ofString "samples") = some (.bytes l)) (f3 : look rho (Str.ofString "seed") = some (.int sd))
    (f4 : look rho (Str.ofString "frame") = some (.int (ch % 65536 * bt / 8))) (f5 : look rho (Str.ofString "heard") = some (.tup [.int (ch % 65536), .int (rt % 4294967296), .int bt])) (f6 : look rho (Str.ofString "bits") = some (.int bt)) (hl : l.length ≤ 30) :
    execs (C1 (j + 4) 35) 87 ⟨rho, none⟩ ((fnAt P1 35).body.drop 13) = .ret (.bool true) := by
  have hb : (fnAt P1 35).body.drop 13 = stAt (fnAt P1 35) 13 :: stAt (fnAt P1 35) 14 :: stAt (fnAt P1 35) 15 :: stAt (fnAt P1 35) 16 :: stAt (fnAt P1 35) 17 :: (fnAt P1 35).body.drop 18 := rfl
  rw [hb]
  conv in stAt (fnAt P1 35) 13 => whnf
  conv in stAt (fnAt P1 35) 14 => whnf
  conv in stAt (fnAt P1 35) 15 => whnf
  conv in stAt (fnAt P1 35) 16 => whnf
  conv in stAt (fnAt P1 35) 17 => whnf
  have Hd : Heard (ch % 65536) (rt % 4294967296) bt := ⟨by (first | lia | omega), by (first | lia | omega), by (first | lia | omega)⟩
  have hsame : fok ch rt bt = true → ch % 65536 = ch ∧ rt % 4294967296 = rt := fun h => by
    have q := fok_iff.mp h
    have := q.1; have := q.2.1; have := q.2.2.1; have := q.2.2.2.1
    (first | lia | omega)
  have hll : l.length ≤ line := by unfold line; (first | lia | omega)
  have t1 := ev_two (j + 3) 1
  have t2 := ev_two (j + 3) (ch % 65536)
  have t3 := ev_four (j + 3) (rt % 4294967296)
  have t4 := ev_four (j + 3) (rt % 4294967296 * (ch % 65536 * bt / 8))
  have t5 := ev_two (j + 3) (ch % 65536 * bt / 8)
  have t6 := ev_two (j + 3) bt
  have z1 : -big < rt % 4294967296 ∧ rt % 4294967296 < big := in_big (by (first | lia | omega))
  have ehd : le2 1 ++ le2 (ch % 65536) ++ le4 (rt % 4294967296) ++ le4 (rt % 4294967296 * (ch % 65536 * bt / 8)) ++ le2 (ch % 65536 * bt / 8) ++ le2 bt = hd (ch % 65536) (rt % 4294967296) bt (ch % 65536 * bt / 8) := rfl
  have fin : ∀ rho' cn, look rho' (Str.ofString "script") = some (.lst S) → look rho' (Str.ofString "head") = some (.bytes (hd (ch % 65536) (rt % 4294967296) bt (ch % 65536 * bt / 8))) → look rho' (Str.ofString "samples") = some (.bytes l) → look rho' (Str.ofString "seed") = some (.int sd) →
      look rho' (Str.ofString "heard") = some (.tup [.int (ch % 65536), .int (rt % 4294967296), .int bt]) → look rho' (Str.ofString "canon") = some (.bytes cn) →
      (fok (ch % 65536) (rt % 4294967296) bt = true ∧ (l.length : Int) % (ch % 65536 * bt / 8) = 0 → ∀ k, Fk Q1 (k + 4) (Str.ofString "_law_save") [.tup [.int (ch % 65536), .int (rt % 4294967296), .int bt], .bytes l] = .ok (.bytes cn)) →
      execs (C1 (j + 4) 35) 82 ⟨rho', none⟩ ((fnAt P1 35).body.drop 18) = .ret (.bool true) := fun rho' cn g0 g1 g2 g3 g5 g6 save => law_V j rho' _ _ bt sd Hd l cn S x hS g0 g1 g2 g3 g5 g6 hl save
  generalize hrest : (fnAt P1 35).body.drop 18 = rest at fin
  have hdl := hd_len (ch % 65536) (rt % 4294967296) bt (ch % 65536 * bt / 8)
  generalize hhd : hd (ch % 65536) (rt % 4294967296) bt (ch % 65536 * bt / 8) = hh at fin ehd hdl
  have hz := encs_two_le hh l (by (first | lia | omega)) hl
  have w1 : Fk Q1 (j + 4) (Str.ofString "_law_plain") [.lst [.tup [.bytes [102, 109, 116, 32], .bytes hh], .tup [.bytes [100, 97, 116, 97], .bytes l]], .int 9, .int 0] = .ok (.bytes (plain [(fmtN, hh), (dataN, l)])) := by
    have := ev_plain (j + 2) [(fmtN, hh), (dataN, l)] 9 0 (by decide) (by unfold line; (first | lia | omega))
    rw [plainF_zero] at this
    exact this
  have w2 := ev_ww j ch rt bt l (by (first | lia | omega))
  have w3 := ev_fits (j + 2) ch rt bt l hll
  have save : fok (ch % 65536) (rt % 4294967296) bt = true ∧ (l.length : Int) % (ch % 65536 * bt / 8) = 0 → ∀ k, Fk Q1 (k + 4) (Str.ofString "_law_save") [.tup [.int (ch % 65536), .int (rt % 4294967296), .int bt], .bytes l] = .ok (.bytes (plain [(fmtN, hh), (dataN, l)])) := fun q k => by
    have e := ev_ww k (ch % 65536) (rt % 4294967296) bt l (by (first | lia | omega))
    rw [if_pos q, hhd] at e
    exact ev_save_ok (k + 2) _ _ _ e
  unfold C1 at fin ⊢
  by_cases hF : fok ch rt bt = true ∧ (l.length : Int) % (ch * bt / 8) = 0
  · obtain ⟨e1, e2⟩ := hsame hF.1
    rw [if_pos hF] at w2
    have hhd2 : hd ch rt bt (ch * bt / 8) = hh := by rw [← hhd, e1, e2]
    rw [hhd2] at w2
    have w4 := ev_save_ok (j + 2) _ _ _ w2
    have b3 : (fok ch rt bt && decide ((l.length : Int) % (ch * bt / 8) = 0)) = true := by rw [hF.1, decide_eq_true hF.2]; rfl
    rw [b3] at w3
    have rc := ev_rc_plain j [(fmtN, hh), (dataN, l)] (good_two hh l (by (first | lia | omega)) (by (first | lia | omega))) (by (first | lia | omega)) (by simp)
    have q := fok_iff.mp hF.1
    have q2 := fok_nums hF.1
    have rf := rf_ok Hd [] (by decide) (by rw [e1, e2]; exact hF.1) j
    rw [List.append_nil, hhd, e1, e2] at rf
    have rw1 := ev_rw_ok j _ hh l ch rt bt ⟨q.1, q.2.1⟩ (by (first | lia | omega)) hll _ (by simp) rc (fold_two hh l) rf
    rw [if_pos hF.2] at rw1
    have w5 := ev_open_ok (j + 2) _ _ rw1
    have eb : (plain [(fmtN, hh), (dataN, l)] == plain [(fmtN, hh), (dataN, l)]) = true := beq_self_eq_true _
    have ty : ∀ l, typD (.bytes l) = .ok (.typ "bytes") := fun _ => rfl
    have es := eq_sound ch rt bt l
    generalize hpp : plain [(fmtN, hh), (dataN, l)] = pp at *
    simp +decide only [getR_some, get_n, set_n, bind_ok, e_const, e_name, e_bin, e_call, e_subC, e_tup, e_lst, es_nil, es_cons, c_int, c_bytes, b_mul, b_cat, m_ne, neR_some, q_bytes, isB, isF, k_type, t_not, notR_t, t_cmp, ch_one, t_call, boolD_b, ss_nil, ss_cons, seq_next, s_if, ifO_t, ifO_f, asgO_ok, ofS_some, a_name, Bool.and_true, Bool.not_true, beq_self_eq_true, lm_one, ns_nil, ns_cons, bm_Name, ns_Name, ns_Constant, ns_BinOp, bm_Tuple, ns_Subscript, ns_List, List.length_cons, List.length_nil, List.length_append, Nat.reduceAdd, Nat.zero_add, m_isT, idxR_some, x_tup, and_self, true_or, Int.reduceLE, Int.reduceLT, Int.reduceToNat, s_asgB, s_asgK, u35_6, u35_8, u35_10, u35_12, u35_18, u35_20, u35_21, u35_22, u35_23, u35_24, u35_25, bb21, u35_78, bb9, u35_80, bb16, u35_82, bb17, u35_84, bb8, u35_86, bb35, u35_88, gg3, u35_89, bb12, u35_92, f1, f2, f4, f5, f6, t1, t2, t3, t4, t5, t6, z1, le2_len, le4_len, ehd, w1, w3, w4, w5, ty, es, List.getElem?_cons_zero, List.getElem?_cons_succ, lp_hit, lp_miss]
    refine fin _ pp ?_ ?_ ?_ ?_ ?_ ?_ save <;> simp +decide only [f0, f2, f3, f5, lp_hit, lp_miss]
  · rw [if_neg hF] at w2
    have w4 := ev_save_no (j + 2) _ _ w2
    have b3 : (fok ch rt bt && decide ((l.length : Int) % (ch * bt / 8) = 0)) = false := by
      rw [Bool.and_eq_false_iff]
      by_cases q : fok ch rt bt = true
      · exact .inr (decide_eq_false fun w => hF ⟨q, w⟩)
      · exact .inl (by simpa using q)
    rw [b3] at w3
    have rf : (Str.ofString "refused" == Str.ofString "refused") = true := beq_self_eq_true _
    generalize hpp : plain [(fmtN, hh), (dataN, l)] = pp at *
    simp +decide only [getR_some, get_n, set_n, bind_ok, e_const, e_name, e_bin, e_call, e_subC, e_tup, e_lst, es_nil, es_cons, c_int, c_str, c_bytes, b_mul, b_cat, m_ne, neR_some, q_str, isF, t_cmp, ch_one, t_call, boolD_b, ss_nil, ss_cons, seq_next, s_if, ifO_f, asgO_ok, ofS_some, a_name, Bool.and_true, Bool.not_true, beq_self_eq_true, lm_one, ns_nil, ns_cons, ns_Name, bm_Constant, ns_Constant, ns_BinOp, ns_Subscript, ns_List, List.length_cons, List.length_nil, List.length_append, Nat.reduceAdd, Nat.zero_add, idxR_some, x_tup, and_self, true_or, Int.reduceLE, Int.reduceLT, Int.reduceToNat, s_asgB, s_asgK, u35_6, u35_8, u35_10, u35_12, u35_18, u35_20, u35_21, u35_23, u35_24, u35_25, bb21, u35_78, bb9, u35_80, bb16, u35_82, bb17, u35_84, bb8, u35_86, f1, f2, f4, f5, f6, t1, t2, t3, t4, t5, t6, z1, le2_len, le4_len, ehd, w1, w3, w4, List.getElem?_cons_zero, List.getElem?_cons_succ, lp_hit, lp_miss]
    refine fin _ pp ?_ ?_ ?_ ?_ ?_ ?_ save <;> simp +decide only [f0, f2, f3, f5, lp_hit, lp_miss]
end
end Mine
namespace Mine
section
open PySem

noncomputable def chans : List Int := [1, 2, 1, 2, 3, 1, 2, 3, 0, 65536, 65535, 21845]
noncomputable def rates : List Int := [8000, 44100, 1, 8000, 65537, 1431655765, 2147483647, 4294967295, 0, 4294967296, 65538]
noncomputable def bitss : List Int := [8, 16, 24, 32, 8, 16, 24, 32, 8, 16, 0, 12]
theorem tab_ch : tabAt P1 14 = .tup (chans.map D.int) := by kernel_rfl
theorem tab_rt : tabAt P1 15 = .tup (rates.map D.int ++ [.none]) := by kernel_rfl
theorem tab_bt : tabAt P1 16 = .tup (bitss.map D.int) := by kernel_rfl
theorem chans_in : ∀ i, i < 12 → 0 ≤ chans.getD i 0 ∧ chans.getD i 0 ≤ 65536 := by decide +kernel
theorem bitss_in : ∀ i, i < 12 → 0 ≤ bitss.getD i 0 ∧ bitss.getD i 0 ≤ 32 := by decide +kernel
theorem getD_map (l : List Int) (i : Nat) (h : i < l.length) : (l.map D.int).getD i .none = .int (l.getD i 0) := by
  rw [List.getD_eq_getElem?_getD, List.getD_eq_getElem?_getD, List.getElem?_map, List.getElem?_eq_getElem h]
  rfl

theorem law_U1 (j : Nat) (ch rt bt : Int) (hbt : 0 ≤ bt ∧ bt ≤ 32) (hch : 0 ≤ ch ∧ ch ≤ 65536) (S : List D) (x : Nat → Int) (hS : ∀ i, i < 17 → S[i]? = some (.int (x i))) (rho : List (Str × D))
    (f0 : look rho (Str.ofString "script") = some (.lst S)) (f1 : look rho (Str.ofString "channels") = some (.int ch)) (f2 : look rho (Str.ofString "rate") = some (.int rt)) (f3 : look rho (Str.ofString "bits") = some (.int bt)) :
    execs (C1 (j + 4) 35) 95 ⟨rho, none⟩ ((fnAt P1 35).body.drop 5) = .ret (.bool true) := by
  have hb : (fnAt P1 35).body.drop 5 = stAt (fnAt P1 35) 5 :: stAt (fnAt P1 35) 6 :: stAt (fnAt P1 35) 7 :: stAt (fnAt P1 35) 8 :: stAt (fnAt P1 35) 9 :: stAt (fnAt P1 35) 10 :: stAt (fnAt P1 35) 11 :: stAt (fnAt P1 35) 12 :: (fnAt P1 35).body.drop 13 := rfl
  rw [hb]
  conv in stAt (fnAt P1 35) 5 => whnf
  conv in stAt (fnAt P1 35) 6 => whnf
  conv in stAt (fnAt P1 35) 7 => whnf
  conv in stAt (fnAt P1 35) 8 => whnf
  conv in stAt (fnAt P1 35) 9 => whnf
  conv in stAt (fnAt P1 35) 10 => whnf
  conv in stAt (fnAt P1 35) 11 => whnf
  conv in stAt (fnAt P1 35) 12 => whnf
  have s4 := hS 4 (by decide)
  have s5 := hS 5 (by decide)
  have s6 := hS 6 (by decide)
  have hfr : 0 ≤ ch % 65536 * bt / 8 := Int.ediv_nonneg (Int.mul_nonneg (by (first | lia | omega)) (by (first | lia | omega))) (by decide)
  have z1 : -big < ch % 65536 ∧ ch % 65536 < big := in_big (by (first | lia | omega))
  have z2 : -big < x 4 % 3 ∧ x 4 % 3 < big := in_big (by (first | lia | omega))
  have fin : ∀ rho' sd l, look rho' (Str.ofString "script") = some (.lst S) → look rho' (Str.ofString "sound") = some (.tup [.int ch, .int rt, .int bt]) → look rho' (Str.ofString "samples") = some (.bytes l) → look rho' (Str.ofString "seed") = some (.int sd) →
      look rho' (Str.ofString "frame") = some (.int (ch % 65536 * bt / 8)) → look rho' (Str.ofString "heard") = some (.tup [.int (ch % 65536), .int (rt % 4294967296), .int bt]) → look rho' (Str.ofString "bits") = some (.int bt) → l.length ≤ 30 →
      execs (C1 (j + 4) 35) 87 ⟨rho', none⟩ ((fnAt P1 35).body.drop 13) = .ret (.bool true) := fun rho' sd l g0 g1 g2 g3 g4 g5 g6 hl => law_U2 j rho' ch rt bt sd hbt hch l S x hS g0 g1 g2 g3 g4 g5 g6 hl
  generalize hrest : (fnAt P1 35).body.drop 13 = rest at fin
  unfold C1 at fin ⊢
  have fin2 : ∀ size, 0 ≤ size → size ≤ 30 → Fk Q1 (j + 4) (Str.ofString "_law_bytes") [.int (x 6 % 256), .int size] = .ok (.bytes (lb (x 6 % 256) size)) ∧ (lb (x 6 % 256) size).length ≤ 30 := fun size h0 h1 => ⟨ev_lb (j + 3) _ _ (by (first | lia | omega)), by rw [lb_len]; (first | lia | omega)⟩
  cases a1 : decide (ch % 65536 * bt / 8 < 13) with
  | true =>
    have q1 := of_decide_eq_true a1
    have h1 : 0 ≤ ch % 65536 * bt / 8 * (x 4 % 3) := Int.mul_nonneg hfr (by (first | lia | omega))
    have h2 : ch % 65536 * bt / 8 * (x 4 % 3) ≤ 24 := by
      have : x 4 % 3 = 0 ∨ x 4 % 3 = 1 ∨ x 4 % 3 = 2 := by (first | lia | omega)
      rcases this with e | e | e <;> rw [e] <;> (first | lia | omega)
    cases a2 : (x 5 % 4 == 3) with
    | true =>
      obtain ⟨w, wl⟩ := fin2 (ch % 65536 * bt / 8 * (x 4 % 3) + 1) (by (first | lia | omega)) (by (first | lia | omega))
      simp +decide only [getR_some, get_n, set_n, bind_ok, e_const, e_name, e_bin, e_call, e_subC, e_tup, es_nil, es_cons, c_int, b_add, b_mul, b_div, b_mod, m_lt, m_eq, eqR_some, q_int, isF, t_cmp, ch_one, ss_nil, ss_cons, seq_next, s_if, ifO_t, asgO_ok, ofS_some, a_name, Bool.and_true, lm_one, ns_nil, ns_cons, ns_Name, bm_Constant, List.length_cons, List.length_nil, Nat.reduceAdd, Nat.zero_add, idxR_some, x_tup, x_lst, and_self, or_true, true_or, Int.reduceLE, Int.reduceLT, Int.reduceToNat, s_asgC, s_asgB, s_asgK, s_asgTp, u35_0, u35_2, u35_4, u35_6, u35_9, u35_10, u35_11, u35_12, u35_13, u35_14, u35_15, u35_16, u35_17, u35_19, bb6, u35_76, f0, f1, f2, f3, s4, s5, s6, z1, z2, a1, a2, w, List.getElem?_cons_zero, lp_hit, lp_miss]
      refine fin _ (x 6 % 256) _ ?_ ?_ ?_ ?_ ?_ ?_ ?_ wl <;> simp +decide only [f0, f3, lp_hit, lp_miss]
    | false =>
      obtain ⟨w, wl⟩ := fin2 (ch % 65536 * bt / 8 * (x 4 % 3)) (by (first | lia | omega)) (by (first | lia | omega))
      simp +decide only [getR_some, get_n, set_n, bind_ok, e_const, e_name, e_bin, e_call, e_subC, e_tup, es_nil, es_cons, c_int, b_mul, b_div, b_mod, m_lt, m_eq, eqR_some, q_int, isF, t_cmp, ch_one, ss_nil, ss_cons, seq_next, s_if, ifO_t, ifO_f, asgO_ok, ofS_some, a_name, Bool.and_true, lm_one, ns_nil, ns_cons, ns_Name, bm_Constant, List.length_cons, List.length_nil, Nat.reduceAdd, Nat.zero_add, idxR_some, x_tup, x_lst, and_self, or_true, true_or, Int.reduceLE, Int.reduceLT, Int.reduceToNat, s_asgC, s_asgB, s_asgK, s_asgTp, u35_0, u35_2, u35_4, u35_6, u35_9, u35_10, u35_11, u35_12, u35_13, u35_14, u35_15, u35_16, u35_17, u35_19, bb6, u35_76, f0, f1, f2, f3, s4, s5, s6, z1, z2, a1, a2, w, List.getElem?_cons_zero, lp_hit, lp_miss]
      refine fin _ (x 6 % 256) _ ?_ ?_ ?_ ?_ ?_ ?_ ?_ wl <;> simp +decide only [f0, f3, lp_hit, lp_miss]
  | false =>
    cases a2 : (x 5 % 4 == 3) with
    | true =>
      obtain ⟨w, wl⟩ := fin2 1 (by (first | lia | omega)) (by (first | lia | omega))
      simp +decide only [getR_some, get_n, set_n, bind_ok, e_const, e_name, e_bin, e_call, e_subC, e_tup, es_nil, es_cons, c_int, b_add, b_mul, b_div, b_mod, m_lt, m_eq, eqR_some, q_int, isF, t_cmp, ch_one, ss_nil, ss_cons, seq_next, s_if, ifO_t, ifO_f, asgO_ok, ofS_some, a_name, Bool.and_true, lm_one, ns_nil, ns_cons, ns_Name, bm_Constant, List.length_cons, List.length_nil, Nat.reduceAdd, Nat.zero_add, idxR_some, x_tup, x_lst, and_self, true_or, Int.reduceAdd, Int.reduceLE, Int.reduceLT, Int.reduceToNat, s_asgC, s_asgB, s_asgK, s_asgTp, u35_0, u35_2, u35_4, u35_6, u35_9, u35_10, u35_11, u35_12, u35_13, u35_14, u35_15, u35_16, u35_17, u35_19, bb6, u35_76, f0, f1, f2, f3, s5, s6, z1, a1, a2, w, List.getElem?_cons_zero, lp_hit, lp_miss]
      refine fin _ (x 6 % 256) _ ?_ ?_ ?_ ?_ ?_ ?_ ?_ wl <;> simp +decide only [f0, f3, lp_hit, lp_miss]
    | false =>
      obtain ⟨w, wl⟩ := fin2 0 (by (first | lia | omega)) (by (first | lia | omega))
      simp +decide only [getR_some, get_n, set_n, bind_ok, e_const, e_name, e_bin, e_call, e_subC, e_tup, es_nil, es_cons, c_int, b_mul, b_div, b_mod, m_lt, m_eq, eqR_some, q_int, isF, t_cmp, ch_one, ss_nil, ss_cons, seq_next, s_if, ifO_f, asgO_ok, ofS_some, a_name, Bool.and_true, lm_one, ns_nil, ns_cons, ns_Name, bm_Constant, List.length_cons, List.length_nil, Nat.reduceAdd, Nat.zero_add, idxR_some, x_tup, x_lst, and_self, true_or, Int.reduceLE, Int.reduceLT, Int.reduceToNat, s_asgC, s_asgB, s_asgK, s_asgTp, u35_0, u35_2, u35_4, u35_6, u35_9, u35_10, u35_11, u35_12, u35_13, u35_14, u35_15, u35_16, u35_17, u35_19, bb6, u35_76, f0, f1, f2, f3, s5, s6, z1, a1, a2, w, List.getElem?_cons_zero, lp_hit, lp_miss]
      refine fin _ (x 6 % 256) _ ?_ ?_ ?_ ?_ ?_ ?_ ?_ wl <;> simp +decide only [f0, f3, lp_hit, lp_miss]

theorem law_short (j : Nat) (S : List D) (hl : S.length < 17) : Fk Q1 (j + 5) (Str.ofString "law") [.lst S] = .ok (.bool true) := by
  rw [Fk_at (fnAt P1 35) (by rw [nat_Q1]; rfl) fnd1_35 ⟨rfl, by simp⟩]
  rw [show (fnAt P1 35).xs = [Str.ofString "script"] from rfl]
  rw [show Q1.fns = fns1 from rfl, show Q1.G = G1 from rfl, show Q1.B = B1 from rfl]
  conv in (fnAt P1 35).body => whnf
  have hll : S.length ≤ line := by unfold line; (first | lia | omega)
  have a1 : decide ((S.length : Int) < 17) = true := by simp; (first | lia | omega)
  simp +decide only [look_str, look_nil, getR_some, get_n, bind_ok, e_const, e_name, e_call, es_nil, es_cons, c_int, c_bool, m_lt, isB, k_len, len_l, t_cmp, ch_one, ss_cons, seq_ret, s_if, ifO_t, s_ret, retO_ok, reduceIte, Bool.and_true, lm_one, ns_nil, ns_cons, ns_Name, bm_Constant, outR_ret, List.zip_cons_cons, List.zip_nil_right, u35_0, bb27, u35_69, hll, a1]

theorem law_long (j : Nat) (S : List D) (h17 : 17 ≤ S.length) (hmax : S.length ≤ 1000) (x : Nat → Int) (hS : ∀ i, i < 17 → S[i]? = some (.int (x i))) : Fk Q1 (j + 5) (Str.ofString "law") [.lst S] = .ok (.bool true) := by
  rw [Fk_at (fnAt P1 35) (by rw [nat_Q1]; rfl) fnd1_35 ⟨rfl, by simp⟩]
  rw [show (fnAt P1 35).xs = [Str.ofString "script"] from rfl]
  rw [show Q1.fns = fns1 from rfl, show Q1.G = G1 from rfl, show Q1.B = B1 from rfl]
  have hb : (fnAt P1 35).body = stAt (fnAt P1 35) 0 :: stAt (fnAt P1 35) 1 :: stAt (fnAt P1 35) 2 :: stAt (fnAt P1 35) 3 :: stAt (fnAt P1 35) 4 :: (fnAt P1 35).body.drop 5 := rfl
  rw [hb]
  conv in stAt (fnAt P1 35) 0 => whnf
  conv in stAt (fnAt P1 35) 1 => whnf
  conv in stAt (fnAt P1 35) 2 => whnf
  conv in stAt (fnAt P1 35) 3 => whnf
  conv in stAt (fnAt P1 35) 4 => whnf
  have hll : S.length ≤ line := by unfold line; (first | lia | omega)
  have a1 : decide ((S.length : Int) < 17) = false := by simp; (first | lia | omega)
  have s0 := hS 0 (by decide)
  have s1 := hS 1 (by decide)
  have s2 := hS 2 (by decide)
  have s3 := hS 3 (by decide)
  obtain ⟨i0, hi0, e0⟩ : ∃ i : Nat, i < 12 ∧ (x 0 % 12).toNat = i := ⟨(x 0 % 12).toNat, by (first | lia | omega), rfl⟩
  obtain ⟨i1, hi1, e1⟩ : ∃ i : Nat, i < 12 ∧ (x 1 % 12).toNat = i := ⟨(x 1 % 12).toNat, by (first | lia | omega), rfl⟩
  obtain ⟨i3, hi3, e3⟩ : ∃ i : Nat, i < 12 ∧ (x 3 % 12).toNat = i := ⟨(x 3 % 12).toNat, by (first | lia | omega), rfl⟩
  have w0 : Fk Q1 (j + 4) (Str.ofString "_law_pick") [.int (x 0), tabAt P1 14] = .ok (.int (chans.getD i0 0)) := by
    rw [tab_ch, ev_pick (j + 3) (x 0) _ (by decide) (by decide)]
    show R.ok ((chans.map D.int).getD (x 0 % 12).toNat .none) = _
    rw [e0, getD_map _ _ hi0]
  have w3 : Fk Q1 (j + 4) (Str.ofString "_law_pick") [.int (x 3), tabAt P1 16] = .ok (.int (bitss.getD i3 0)) := by
    rw [tab_bt, ev_pick (j + 3) (x 3) _ (by decide) (by decide)]
    show R.ok ((bitss.map D.int).getD (x 3 % 12).toNat .none) = _
    rw [e3, getD_map _ _ hi3]
  have fin : ∀ rho rt, look rho (Str.ofString "script") = some (.lst S) → look rho (Str.ofString "channels") = some (.int (chans.getD i0 0)) → look rho (Str.ofString "rate") = some (.int rt) → look rho (Str.ofString "bits") = some (.int (bitss.getD i3 0)) →
      execs (C1 (j + 4) 35) 95 ⟨rho, none⟩ ((fnAt P1 35).body.drop 5) = .ret (.bool true) := fun rho rt g0 g1 g2 g3 => law_U1 j _ rt _ (bitss_in i3 hi3) (chans_in i0 hi0) S x hS rho g0 g1 g2 g3
  generalize hrest : (fnAt P1 35).body.drop 5 = rest at fin
  generalize chans.getD i0 0 = ch at w0 fin
  generalize bitss.getD i3 0 = bt at w3 fin
  unfold C1 at fin
  by_cases h11 : i1 = 11
  · have w1 : Fk Q1 (j + 4) (Str.ofString "_law_pick") [.int (x 1), tabAt P1 15] = .ok .none := by
      rw [tab_rt, ev_pick (j + 3) (x 1) _ (by decide) (by decide)]
      show R.ok ((rates.map D.int ++ [D.none]).getD (x 1 % 12).toNat .none) = _
      rw [e1, h11]
      rfl
    simp +decide only [look_str, look_nil, put_str, put_nil, getR_some, get_n, set_n, bind_ok, e_const, e_name, e_call, e_subC, es_nil, es_cons, c_int, c_none, m_lt, isB, isF, k_len, len_l, t_cmp, ch_one, ss_nil, ss_cons, seq_next, s_if, ifO_t, ifO_f, asgO_ok, ofS_some, a_name, reduceIte, Bool.and_true, lm_one, ns_nil, ns_cons, ns_Name, bm_Constant, ns_Subscript, m_isN, idxR_some, x_lst, and_self, List.zip_cons_cons, List.zip_nil_right, Int.reduceLE, Int.reduceLT, Int.reduceToNat, s_asgK, s_asgS, u35_0, u35_3, u35_4, u35_5, u35_7, bb27, u35_69, bb14, u35_71, gg4, u35_72, gg5, u35_73, gg6, u35_74, hll, a1, s0, s1, s2, s3, w0, w1, w3]
    exact congrArg outR (fin _ (x 2) (by simp +decide only [look_str, look_nil, reduceIte]) (by simp +decide only [look_str, look_nil, reduceIte]) (by simp +decide only [look_str, look_nil, reduceIte]) (by simp +decide only [look_str, look_nil, reduceIte]))
  · have w1 : Fk Q1 (j + 4) (Str.ofString "_law_pick") [.int (x 1), tabAt P1 15] = .ok (.int (rates.getD i1 0)) := by
      rw [tab_rt, ev_pick (j + 3) (x 1) _ (by decide) (by decide)]
      show R.ok ((rates.map D.int ++ [D.none]).getD (x 1 % 12).toNat .none) = _
      have hi : i1 < (rates.map D.int).length := by show i1 < 11; (first | lia | omega)
      rw [e1, List.getD_eq_getElem?_getD, List.getElem?_append_left hi, ← List.getD_eq_getElem?_getD, getD_map _ _ (by show i1 < 11; (first | lia | omega))]
    simp +decide only [look_str, look_nil, put_str, put_nil, getR_some, get_n, set_n, bind_ok, e_const, e_name, e_call, e_subC, es_nil, es_cons, c_int, c_none, m_lt, isB, isF, k_len, len_l, t_cmp, ch_one, ss_nil, ss_cons, seq_next, s_if, ifO_f, asgO_ok, ofS_some, a_name, reduceIte, Bool.and_true, lm_one, ns_nil, ns_cons, ns_Name, bm_Constant, ns_Subscript, m_isI, idxR_some, x_lst, and_self, List.zip_cons_cons, List.zip_nil_right, Int.reduceLE, Int.reduceLT, Int.reduceToNat, s_asgK, u35_0, u35_3, u35_4, u35_5, u35_7, bb27, u35_69, bb14, u35_71, gg4, u35_72, gg5, u35_73, gg6, u35_74, hll, a1, s0, s1, s3, w0, w1, w3]
    exact congrArg outR (fin _ (rates.getD i1 0) (by simp +decide only [look_str, look_nil, reduceIte]) (by simp +decide only [look_str, look_nil, reduceIte]) (by simp +decide only [look_str, look_nil, reduceIte]) (by simp +decide only [look_str, look_nil, reduceIte]))
end
end Mine
namespace Mine
section
open PySem PySem.Calls PySem.Spec PyProof.Rows PySem.SeqAt

noncomputable def seedF (seed : Int) (v y : Value) : Prop := ∃ i t u, v = Value.int i t ∧ y = Value.int ((seed + 37 * i) % 256) u
theorem pairs_ints (seed : Int) : ∀ (vs ys : List Value) (i0 : Nat), (∀ (j : Nat) (v : Value), vs[j]? = some v → ∃ t, v = .int (0 + ((i0 + j : Nat) : Int) * 1) t) → Paired (seedF seed) vs ys → IntsAre ys ((List.range' i0 vs.length).map fun (j : Nat) => (seed + 37 * (j : Int)) % 256)
  | [], _, _, _, .nil => .nil
  | v :: vs, _, i0, h, .cons (b := y) (l₂ := ys) hf hp => by
    obtain ⟨t, e⟩ := h 0 v rfl
    obtain ⟨i, t', u, e1, e2⟩ := hf
    rw [e] at e1
    injection e1 with e1 _
    have ei : i = (i0 : Int) := by rw [← e1]; simp
    subst e2
    rw [ei, List.length_cons, List.range'_succ, List.map_cons]
    exact .cons _ _ (pairs_ints seed vs ys (i0 + 1) (fun j v hj => by
      obtain ⟨t, e⟩ := h (j + 1) v hj
      exact ⟨t, by rw [e]; congr 1; congr 2; (first | lia | omega)⟩) hp)

theorem lawBytes_ok {W : Wd} (wok : W.Ok) (hf : FnAt W (fnAt P1 22).name (fnAt P1 22).params (fnAt P1 22).body (fnAt P1 22).scope) (hb1 : W.mg (Str.ofString "bytes") = none) (hb2 : W.mg (Str.ofString "range") = none) (ds : List D) (hs : lawBytes ds ≠ .stuck) : CallOk W 1 (fnAt P1 22).name ds (lawBytes ds) := by
  unfold lawBytes at hs ⊢
  split at hs
  · rename_i seed size
    split at hs
    · rename_i hz
      rw [if_pos hz]
      obtain ⟨a, o, pm, cd, doc, f1, f2, f3, f4⟩ := hf
      refine ⟨a, o, _, f1, f2, f3, fun A outer s vals hfr hh hd hu hst hff hdc hrep => ?_⟩
      cases hrep with
      | cons r1 hrep =>
      cases hrep with
      | cons r2 hrep =>
      cases hrep with
      | nil =>
      cases r1 with
      | int _ t1 =>
      cases r2 with
      | int _ t2 =>
      refine wpAny_call ?_
      refine call_cells (binds := [(Str.ofString "seed", .int seed t1), (Str.ofString "size", .int size t2)]) (by (first | lia | omega)) (hst _ _ f2) f3 (wok.nolimit.keeps hst) (f4.keeps hst) rfl (fun x hx => ?_) (fun h₁ tk F Cc => ?_)
      · rcases List.mem_cons.mp hx with rfl | hx
        · exact .inr ⟨by show List.lookup (Str.ofString "seed") _ = _; decide +kernel, by rfl⟩
        · rcases List.mem_cons.mp hx with rfl | hx
          · exact .inl (by show List.lookup (Str.ofString "size") _ = _; decide +kernel)
          · cases hx
      · have hk1 : ∀ b o, s.heap.get? b = some o → h₁.get? b = some o := F.keep
        have topName : ∀ (x : Str) (v : Value) (h : Heap) (tk : Nat) (pos : Pos) (Q : Value → Shared → Prop) (E : Value → Shared → Prop), (∀ b o, s.heap.get? b = some o → h.get? b = some o) →
            (fnAt P1 22).scope.names.lookup x = some .globalImplicit → W.mg x = none → x ≠ "__name__" → bootBuiltins x = some v → (x == ("__debug__" : Str)) = false → Q v { s with heap := h, toks := tk } →
            wpAny (model W.p W.w) (A.deeper (envOfC (fnAt P1 22).name (fnAt P1 22).scope s.heap.objs.size a cd)) (eval (.Name x pos) (envOfC (fnAt P1 22).name (fnAt P1 22).scope s.heap.objs.size a cd)) Q E { s with heap := h, toks := tk } :=
          fun x v h tk pos Q E hk hx hm hne hv hd hQ => Calls.Name_function_global (env := envOfC (fnAt P1 22).name (fnAt P1 22).scope s.heap.objs.size a cd) rfl hx (Calls.loadGlobal_builtin (wok.g.keeps fun b o e => hk b o (hst b o e)) hm (wok.b.keeps fun b o e => hk b o (hst b o e)) ((wok.bi x hne).trans hv) hQ) hd
        refine wpAny_execs_cons (wpAny_Return_some (Call_ ?_))
        refine topName (Str.ofString "bytes") (.type "bytes") h₁ tk _ _ _ hk1 (by decide +kernel) hb1 (by decide +kernel) (by decide +kernel) (by decide +kernel) ?_
        refine PyProof.Rows.callWith_type1 (args_cons ?_)
        -- the list
        refine wpAny_ListComp_free (fun _ => true) (seedF seed) (cl := [(Str.ofString "seed", s.heap.objs.size + 1)]) rfl (by decide +kernel) rfl (by decide +kernel) (by decide +kernel) ?_
        refine Call_ (topName (Str.ofString "range") (.type "range") h₁ tk _ _ _ hk1 (by decide +kernel) hb2 (by decide +kernel) (by decide +kernel) (by decide +kernel) ?_)
        refine PyProof.Rows.callWith_type1 (args_cons (wpAny_Name (wpAny_loadName_local (env := envOfC (fnAt P1 22).name (fnAt P1 22).scope s.heap.objs.size a cd) (v := .int size t2) rfl (by show List.lookup (Str.ofString "size") (fnAt P1 22).scope.names = _; decide +kernel) F.ns rfl (args_nil ?_)) (by decide +kernel)))
        refine call_range_1 ?_
        refine wpAny_pyIter_range (IsRange.new ..) (small_one (by decide) (by decide) (by (first | lia | omega)) (by (first | lia | omega))) ?_
        have hsz : Builtin.Range.rangeSize 0 size 1 = (size.toNat : Int) := by rw [rangeSize_one]; split <;> (first | lia | omega)
        have hk2 : ∀ b o, h₁.get? b = some o → ((h₁.push { cls := .type "range", data := .fields #[.int 0 tk, .int size t2, .int 1 (tk + 1)] }).push { cls := .type "range_iterator", data := .fields #[rawInt 0, rawInt (Builtin.Range.rangeSize 0 size 1), rawInt 1] }).get? b = some o := fun b o e => Heap.get?_push_of_some _ (Heap.get?_push_of_some _ e)
        have hI : (h₁.push { cls := .type "range", data := .fields #[.int 0 tk, .int size t2, .int 1 (tk + 1)] }).objs.size = h₁.objs.size + 1 := Heap.size_push _ _
        refine ⟨_, [_], [_], size.toNat, _, _, rfl, Walks.range (show (A.deeper (envOfC (fnAt P1 22).name (fnAt P1 22).scope s.heap.objs.size a cd)).handled = none from hh) _ 0 1 size.toNat, by rw [sizeLine_eq]; (first | lia | omega), ?_, ?_, ⟨?_, ?_⟩, ?_⟩
        · have e1 : (0 + ((0 : Nat) : Int) * 1) = 0 := by simp
          have e2 : ((size.toNat : Int) - ((0 : Nat) : Int)) = Builtin.Range.rangeSize 0 size 1 := by rw [hsz]; simp
          rw [e1, e2]
          exact Heap.get?_push_size _ rfl
        · intro b hb
          rw [List.mem_singleton.mp hb]
          exact Nat.lt_of_lt_of_eq (Nat.lt_succ_self _) (Heap.size_push _ _).symm
        · intro C i v s₃ m₃ E' _ _ _ _ _ _
          exact wpAny_pure ⟨rfl, s₃.heap, s₃.toks, rfl, fun _ _ e => e⟩
        · intro C i v s₃ m₃ E' hC hP _ hn hm hk htk
          obtain ⟨tv, rfl⟩ := hP
          have hcell : s₃.heap.IsCell (s.heap.objs.size + 1) (some (.int seed t1)) := by
            obtain ⟨oc, hoc, hdc⟩ := Cc.cell (Str.ofString "seed") (s.heap.objs.size + 1) (by rfl)
            refine ⟨oc, hk _ _ (fun hm => ?_) (hk2 _ _ hoc), hdc⟩
            have q : s.heap.objs.size + 1 < h₁.objs.size := Heap.lt_size hoc
            have e := List.mem_singleton.mp hm
            have e2 : s.heap.objs.size + 1 = h₁.objs.size + 1 := e.trans hI
            clear hk htk hm
            (first | lia | omega)
          refine wpAny_BinOp (wpAny_BinOp (wpAny_Name (wpAny_loadName_cell (c := s.heap.objs.size + 1) rfl (by rfl) rfl hcell ?_) (by decide +kernel)))
          refine wpAny_BinOp (wpAny_Constant_int (wpAny_Name (wpAny_loadName_local rfl (by rfl) (show Heap.Ns _ _ m₃ from hn) hm ?_) (by decide +kernel)))
          refine PySem.P.mul_int ?_ (mulOk (.inl (by decide)))
          refine add_int ?_
          refine wpAny_Constant_int ?_
          refine PyProof.Rows.mod_int (by decide) ?_
          rw [Int.fmod_eq_emod_of_nonneg _ (by decide)]
          exact ⟨⟨_, _, _, rfl, rfl⟩, s₃.heap, _, rfl, fun _ _ e => e⟩
        · intro Dd h' tk' ys vs hD hL _ hlen hP hF hk
          rw [List.filter_eq_self.mpr (fun _ _ => rfl)] at hF
          have hI2 := pairs_ints seed vs ys.toList 0 (fun j v hj => by
            obtain ⟨t, e⟩ := hP j v hj
            exact ⟨t, by rw [e, Nat.zero_add]⟩) hF
          refine args_nil ?_
          refine prim_make _ _ _ _ _ Dd ys.toList _ _ (by simpa using hL) hI2 (fun n hn => ?_) ?_ hh (fun h'' t'' k'' hk'' => ?_)
          · obtain ⟨j, _, rfl⟩ := List.mem_map.mp hn
            exact mod_in _
          · have := hI2.length
            rw [this, List.length_map, List.length_range', hlen, sizeLine_eq]
            (first | lia | omega)
          · refine ⟨_, h'', k'', rfl, rfl, .of_keeps fun b o e => hk'' b o (hk b o (fun hm => ?_) (hk2 b o (hk1 b o e))), ?_⟩
            · have q : b < h₁.objs.size := Heap.lt_size (hk1 b o e)
              have e2 : b = h₁.objs.size + 1 := (List.mem_singleton.mp hm).trans hI
              rw [e2] at q
              exact Nat.not_succ_lt_self q
            · rw [hlen, List.map_map, ← List.range_eq_range']
              exact .bytes _ _
    · exact absurd rfl hs
  · exact absurd rfl hs
end
end Mine
namespace Mine
section
open PySem PySem.Calls PySem.Spec PyProof.Rows PySem.SeqAt PySem.W

/-- what a def's text says by itself -/
structure FnSt (d : Fn) : Prop where
  nd : d.xs.Nodup
  bind : ∀ pm cd doc (vals : List Value), vals.length = d.xs.length → bindArgs (docDef d.name d.params d.body d.scope pm cd doc) ⟨vals, []⟩ = pure (d.xs.zip vals)
  loc : ∀ x ∈ d.xs, d.scope.names.lookup x = some .local
  co : d.scope.isCoroutine = false
  gen : d.scope.isGenerator = false
  kind : d.scope.kind = .function
  cell : ∀ x ∈ d.scope.names, x.2 ≠ .cell
noncomputable def stOk (d : Fn) : Bool := decide d.xs.Nodup && (d.xs.all (fun x => d.scope.names.lookup x == some .local) && (!d.scope.isCoroutine && (!d.scope.isGenerator && (d.scope.kind == .function && d.scope.names.all fun x => x.2 != .cell))))
theorem FnSt.of {d : Fn} (h : stOk d = true) (b : ∀ pm cd doc (vals : List Value), vals.length = d.xs.length → bindArgs (docDef d.name d.params d.body d.scope pm cd doc) ⟨vals, []⟩ = pure (d.xs.zip vals)) : FnSt d := by
  simp only [stOk, Bool.and_eq_true, decide_eq_true_eq, List.all_eq_true, beq_iff_eq, Bool.not_eq_true', bne_iff_ne, ne_eq] at h
  exact ⟨h.1, b, h.2.1, h.2.2.1, h.2.2.2.1, h.2.2.2.2.1, h.2.2.2.2.2⟩
theorem len1 {l : List Value} (h : l.length = 1) : ∃ a, l = [a] := by
  cases l with
  | nil => cases h
  | cons a r =>
    cases r with
    | nil => exact ⟨a, rfl⟩
    | cons _ _ => cases h
theorem len2 {l : List Value} (h : l.length = 2) : ∃ a b, l = [a, b] := by
  cases l with
  | nil => cases h
  | cons a r =>
    obtain ⟨b, rfl⟩ := len1 (Nat.succ.inj h)
    exact ⟨a, b, rfl⟩
theorem len3 {l : List Value} (h : l.length = 3) : ∃ a b c, l = [a, b, c] := by
  cases l with
  | nil => cases h
  | cons a r =>
    obtain ⟨b, c, rfl⟩ := len2 (Nat.succ.inj h)
    exact ⟨a, b, c, rfl⟩
theorem len4 {l : List Value} (h : l.length = 4) : ∃ a b c d, l = [a, b, c, d] := by
  cases l with
  | nil => cases h
  | cons a r =>
    obtain ⟨b, c, d, rfl⟩ := len3 (Nat.succ.inj h)
    exact ⟨a, b, c, d, rfl⟩
theorem len5 {l : List Value} (h : l.length = 5) : ∃ a b c d e, l = [a, b, c, d, e] := by
  cases l with
  | nil => cases h
  | cons a r =>
    obtain ⟨b, c, d, e, rfl⟩ := len4 (Nat.succ.inj h)
    exact ⟨a, b, c, d, e, rfl⟩
theorem st1_1 : FnSt (fnAt P1 1) := .of (by decide +kernel) fun pm cd doc vals h => by
  obtain ⟨a, b, rfl⟩ := len2 h
  rfl
theorem st1_2 : FnSt (fnAt P1 2) := .of (by decide +kernel) fun pm cd doc vals h => by
  obtain ⟨a, b, c, rfl⟩ := len3 h
  rfl
theorem st1_4 : FnSt (fnAt P1 4) := .of (by decide +kernel) fun pm cd doc vals h => by
  obtain ⟨a, rfl⟩ := len1 h
  rfl
theorem st1_5 : FnSt (fnAt P1 5) := .of (by decide +kernel) fun pm cd doc vals h => by
  obtain ⟨a, rfl⟩ := len1 h
  rfl
theorem st1_7 : FnSt (fnAt P1 7) := .of (by decide +kernel) fun pm cd doc vals h => by
  obtain ⟨a, rfl⟩ := len1 h
  rfl
theorem st1_8 : FnSt (fnAt P1 8) := .of (by decide +kernel) fun pm cd doc vals h => by
  obtain ⟨a, rfl⟩ := len1 h
  rfl
theorem st1_9 : FnSt (fnAt P1 9) := .of (by decide +kernel) fun pm cd doc vals h => by
  obtain ⟨a, rfl⟩ := len1 h
  rfl
theorem st1_11 : FnSt (fnAt P1 11) := .of (by decide +kernel) fun pm cd doc vals h => by
  obtain ⟨a, b, rfl⟩ := len2 h
  rfl
theorem st1_12 : FnSt (fnAt P1 12) := .of (by decide +kernel) fun pm cd doc vals h => by
  obtain ⟨a, rfl⟩ := len1 h
  rfl
theorem st1_18 : FnSt (fnAt P1 18) := .of (by decide +kernel) fun pm cd doc vals h => by
  obtain ⟨a, b, rfl⟩ := len2 h
  rfl
theorem st1_19 : FnSt (fnAt P1 19) := .of (by decide +kernel) fun pm cd doc vals h => by
  obtain ⟨a, rfl⟩ := len1 h
  rfl
theorem st1_20 : FnSt (fnAt P1 20) := .of (by decide +kernel) fun pm cd doc vals h => by
  obtain ⟨a, rfl⟩ := len1 h
  rfl
theorem st1_21 : FnSt (fnAt P1 21) := .of (by decide +kernel) fun pm cd doc vals h => by
  obtain ⟨a, rfl⟩ := len1 h
  rfl
theorem st1_23 : FnSt (fnAt P1 23) := .of (by decide +kernel) fun pm cd doc vals h => by
  obtain ⟨a, b, c, rfl⟩ := len3 h
  rfl
theorem st1_24 : FnSt (fnAt P1 24) := .of (by decide +kernel) fun pm cd doc vals h => by
  obtain ⟨a, b, rfl⟩ := len2 h
  rfl
theorem st1_25 : FnSt (fnAt P1 25) := .of (by decide +kernel) fun pm cd doc vals h => by
  obtain ⟨a, b, c, rfl⟩ := len3 h
  rfl
theorem st1_26 : FnSt (fnAt P1 26) := .of (by decide +kernel) fun pm cd doc vals h => by
  obtain ⟨a, rfl⟩ := len1 h
  rfl
theorem st1_27 : FnSt (fnAt P1 27) := .of (by decide +kernel) fun pm cd doc vals h => by
  obtain ⟨a, b, rfl⟩ := len2 h
  rfl
theorem st1_28 : FnSt (fnAt P1 28) := .of (by decide +kernel) fun pm cd doc vals h => by
  obtain ⟨a, b, rfl⟩ := len2 h
  rfl
theorem st1_29 : FnSt (fnAt P1 29) := .of (by decide +kernel) fun pm cd doc vals h => by
  obtain ⟨a, rfl⟩ := len1 h
  rfl
theorem st1_30 : FnSt (fnAt P1 30) := .of (by decide +kernel) fun pm cd doc vals h => by
  obtain ⟨a, rfl⟩ := len1 h
  rfl
theorem st1_31 : FnSt (fnAt P1 31) := .of (by decide +kernel) fun pm cd doc vals h => by
  obtain ⟨a, rfl⟩ := len1 h
  rfl
theorem st1_32 : FnSt (fnAt P1 32) := .of (by decide +kernel) fun pm cd doc vals h => by
  obtain ⟨a, rfl⟩ := len1 h
  rfl
theorem st1_33 : FnSt (fnAt P1 33) := .of (by decide +kernel) fun pm cd doc vals h => by
  obtain ⟨a, rfl⟩ := len1 h
  rfl
theorem st1_34 : FnSt (fnAt P1 34) := .of (by decide +kernel) fun pm cd doc vals h => by
  obtain ⟨a, b, c, d, e, rfl⟩ := len5 h
  rfl
theorem st1_35 : FnSt (fnAt P1 35) := .of (by decide +kernel) fun pm cd doc vals h => by
  obtain ⟨a, rfl⟩ := len1 h
  rfl
theorem st1 : ∀ d ∈ Q1.tbl, FnSt d := by
  intro d hd
  have hd : d ∈ idx1.map (fnAt P1) := hd
  obtain ⟨i, hi, rfl⟩ := List.mem_map.mp hd
  simp only [idx1, List.mem_cons, List.not_mem_nil, or_false] at hi
  rcases hi with rfl | rfl | rfl | rfl | rfl | rfl | rfl | rfl | rfl | rfl | rfl | rfl | rfl | rfl | rfl | rfl | rfl | rfl | rfl | rfl | rfl | rfl | rfl | rfl | rfl | rfl
  · exact st1_1
  · exact st1_2
  · exact st1_4
  · exact st1_5
  · exact st1_7
  · exact st1_8
  · exact st1_9
  · exact st1_11
  · exact st1_12
  · exact st1_18
  · exact st1_19
  · exact st1_20
  · exact st1_21
  · exact st1_23
  · exact st1_24
  · exact st1_25
  · exact st1_26
  · exact st1_27
  · exact st1_28
  · exact st1_29
  · exact st1_30
  · exact st1_31
  · exact st1_32
  · exact st1_33
  · exact st1_34
  · exact st1_35

noncomputable def toFn (d : DefRec) : Fn := ⟨d.name, d.params, d.body, d.scope⟩
noncomputable def idxA : List Nat := [1, 2, 4, 5, 7, 8, 9, 11, 12, 18, 19, 20, 21, 22, 23, 24, 25, 26, 27, 28, 29, 30, 31, 32, 33, 34, 35]
theorem fn_at {p : Program} {loose : List Str} {mean : ExcName → Option Value} {mg mb : Str → Option Value} {h : Heap} (T : Top p loose mean mg mb h) {prog : Program} {w : World} {l : List Fn} (hr : (recsOf p).map toFn = l) (d : Fn) (hd : d ∈ l) : FnAt ⟨prog, w, h, mg, mb⟩ d.name d.params d.body d.scope := by
  rw [← hr] at hd
  obtain ⟨r, hm, rfl⟩ := List.mem_map.mp hd
  obtain ⟨a, o, pm, cd, doc, h1, h2, h3, h4⟩ := T.fn r hm
  exact ⟨a, o, pm, cd, doc, h1, h2, h3, h4⟩

/-! data of the text's, read -/
noncomputable def wD : WData → D
  | .int i => .int i
  | .str x => .str x
  | _ => .none
noncomputable def wOk : WData → Bool
  | .int _ => true
  | .str _ => true
  | .none => true
  | _ => false
theorem rep_lits {h : Heap} : ∀ (vs : List Value) (ds : List WData) (as : List Addr), ReadsAllW [] (fun _ => none) h vs ds as → ds.all wOk = true → RepL Plain h vs (ds.map wD)
  | _, _, _, .nil, _ => .nil
  | _, _, _, .cons (d := d) r rs, hk => by
    simp only [List.all_cons, Bool.and_eq_true] at hk
    refine .cons ?_ (rep_lits _ _ _ rs hk.2)
    cases r with
    | none => exact .none
    | int i t => exact .int i t
    | str x t => exact .str x t
    | _ => exact absurd hk.1 (by simp [wOk])
theorem rep_tuple {h : Heap} {v : Value} {ds : List WData} {as : List Addr} (r : ReadsLit h v (.tuple ds) as) (hk : ds.all wOk = true) : Rep Plain h v (.tup (ds.map wD)) := by
  cases r with
  | @tuple a o vs n _ _ h1 h2 h3 h4 => exact .tup (vs := vs.toList) ⟨o, h1, h2, n, by rw [h3]⟩ (rep_lits _ _ _ h4 hk)

theorem ints_rep {h : Heap} : ∀ {vs : List Value} {ns : List Int}, IntsAre vs ns → RepL Plain h vs (ns.map D.int)
  | _, _, .nil => .nil
  | _, _, .cons n t r => .cons (.int n t) (ints_rep r)

noncomputable def litsOk (p : Program) (l : List (Str × List WData)) : Bool := l.all fun c => (wlitsOf p).any fun d => d.1 == c.1
noncomputable def freeOk (p : Program) (loose : List Str) (l : List Str) : Bool :=
  l.all fun x => !(startupNames.contains x) && !(loose.contains x) && !(((recsOf p).map (·.name)).contains x) && !(((litsOf p).map (·.1)).contains x) && !(((clssOf p loose).map (·.name)).contains x)
theorem free_of {p : Program} {loose : List Str} {mean : ExcName → Option Value} {mg mb : Str → Option Value} {h : Heap} (T : Top p loose mean mg mb h) {l : List Str} (hf : freeOk p loose l = true) (x : Str) (hx : x ∈ l) : mg x = none := by
  have := List.all_eq_true.mp hf x hx
  simp only [Bool.and_eq_true, Bool.not_eq_true', List.contains_eq_mem, decide_eq_false_iff_not] at this
  exact T.free x this.1.1.1.1 this.1.1.1.2 this.1.1.2 this.1.2 this.2

noncomputable def free1 : List Str := [Str.ofString "tuple", Str.ofString "list", Str.ofString "int"] ++ B1
noncomputable def lits1 : List (Str × WData) := [(Str.ofString "_law_CHANNELS", .tuple (chans.map .int)), (Str.ofString "_law_RATES", .tuple (rates.map .int ++ [.none])), (Str.ofString "_law_BITS", .tuple (bitss.map .int)), (Str.ofString "_law_SHAPES", .tuple (shapes.map .str))]
theorem pg1_ok {p prog : Program} {loose : List Str} {mean : ExcName → Option Value} {mg mb : Str → Option Value} {h : Heap} {w : World} (T : Top p loose mean mg mb h) (TW : TopW p mg h)
    (hr : (recsOf p).map toFn = idxA.map (fnAt P1)) (hw : wlitsOf p = lits1) (hf : freeOk p loose free1 = true) : PgOk Q1 ⟨prog, w, h, mg, mb⟩ := by
  have hfree : ∀ x ∈ free1, mg x = none := free_of T hf
  have hB : ∀ x, B1.contains x = true → mg x = none := fun x hx => hfree x (List.mem_append_right _ (by simpa using hx))
  have sub : ∀ i ∈ idx1, i ∈ idxA := by decide
  have ok : (⟨prog, w, h, mg, mb⟩ : Wd).Ok := ⟨T.g, T.b, T.builtins, T.nolimit⟩
  have lit : ∀ x ds, (x, WData.tuple ds) ∈ lits1 → ds.all wOk = true → ∃ v, Rep Plain h v (.tup (ds.map wD)) ∧ mg x = some v := fun x ds hx hk => by
    obtain ⟨v, h1, h2⟩ := TW.lits (x, .tuple ds) (hw ▸ hx)
    exact ⟨v, rep_tuple h2 hk, h1⟩
  refine ⟨ok, fun d hd => ?_, fun f g hg ds hs => ?_, fun x d hx => ?_, hB, fun x hx => ?_⟩
  · have S := st1 d hd
    have hm : d ∈ idxA.map (fnAt P1) := by
      obtain ⟨i, hi, e⟩ := List.mem_map.mp (show d ∈ idx1.map (fnAt P1) from hd)
      exact List.mem_map.mpr ⟨i, sub i hi, e⟩
    exact ⟨fn_at T hr d hm, S.nd, S.bind, S.loc, S.co, S.gen, S.kind, S.cell⟩
  · have hg : List.lookup f [(Str.ofString "_law_bytes", lawBytes)] = some g := hg
    rw [List.lookup_cons] at hg
    split at hg
    · rename_i q
      cases hg
      have e : f = (fnAt P1 22).name := by rw [eq_of_beq q]; kernel_rfl
      rw [e]
      exact lawBytes_ok ok (fn_at T hr _ (List.mem_map.mpr ⟨22, by decide, rfl⟩)) (hB _ (by decide +kernel)) (hB _ (by decide +kernel)) ds hs
    · cases hg
  · have hx : List.lookup x [(Str.ofString "tuple", D.typ "tuple"), (Str.ofString "list", D.typ "list"), (Str.ofString "int", D.typ "int"), (Str.ofString "bytes", D.typ "bytes"),
      (Str.ofString "_law_CHANNELS", tabAt P1 14), (Str.ofString "_law_RATES", tabAt P1 15), (Str.ofString "_law_BITS", tabAt P1 16), (Str.ofString "_law_SHAPES", tabAt P1 17)] = some d := hx
    have typ : ∀ n : String, mg (Str.ofString n) = none → Str.ofString n ≠ "__name__" → bootBuiltins (Str.ofString n) = some (.type n) → ∃ v, Rep Plain h v (.typ n) ∧ TopName ⟨prog, w, h, mg, mb⟩ (Str.ofString n) v := fun n h1 h2 h3 => ⟨.type n, .typ n, .inr ⟨h1, h2, h3⟩⟩
    simp only [List.lookup_cons, List.lookup_nil] at hx
    repeat' split at hx
    all_goals (try cases hx)
    all_goals rename_i q
    all_goals rw [eq_of_beq q]
    · exact typ "tuple" (hfree _ (by decide +kernel)) (by decide +kernel) (by decide +kernel)
    · exact typ "list" (hfree _ (by decide +kernel)) (by decide +kernel) (by decide +kernel)
    · exact typ "int" (hfree _ (by decide +kernel)) (by decide +kernel) (by decide +kernel)
    · exact typ "bytes" (hfree _ (by decide +kernel)) (by decide +kernel) (by decide +kernel)
    · obtain ⟨v, h1, h2⟩ := lit (Str.ofString "_law_CHANNELS") (chans.map .int) (by simp [lits1]) (by decide +kernel)
      exact ⟨v, by rw [tab_ch]; exact h1, .inl h2⟩
    · obtain ⟨v, h1, h2⟩ := lit (Str.ofString "_law_RATES") (rates.map .int ++ [.none]) (by simp [lits1]) (by decide +kernel)
      exact ⟨v, by rw [tab_rt]; exact h1, .inl h2⟩
    · obtain ⟨v, h1, h2⟩ := lit (Str.ofString "_law_BITS") (bitss.map .int) (by simp [lits1]) (by decide +kernel)
      exact ⟨v, by rw [tab_bt]; exact h1, .inl h2⟩
    · obtain ⟨v, h1, h2⟩ := lit (Str.ofString "_law_SHAPES") (shapes.map .str) (by simp [lits1]) (by decide +kernel)
      exact ⟨v, by rw [tab_shapes]; exact h1, .inl h2⟩
  · have hm : x ∈ idxA.map fun i => (fnAt P1 i).name := by
      have hx0 : x ∈ Q1.fns := by simpa using hx
      have hx : x ∈ (fnAt P1 22).name :: idx1.map fun i => (fnAt P1 i).name := hx0
      rcases List.mem_cons.mp hx with rfl | hx
      · exact List.mem_map.mpr ⟨22, by decide, rfl⟩
      · obtain ⟨i, hi, e⟩ := List.mem_map.mp hx
        exact List.mem_map.mpr ⟨i, sub i hi, e⟩
    obtain ⟨i, hi, rfl⟩ := List.mem_map.mp hm
    obtain ⟨a, o, pm, cd, doc, h1, h2, h3, h4⟩ := fn_at (prog := prog) (w := w) T hr (fnAt P1 i) (List.mem_map.mpr ⟨i, hi, rfl⟩)
    exact ⟨a, o, _, h1, h2, h3⟩

theorem tie1 {p prog : Program} {loose : List Str} {mean : ExcName → Option Value} {mg mb : Str → Option Value} {w : World} {s₁ : Shared} {fa la : Addr} {ns : List Int} {vs : List Value} (T : Top p loose mean mg mb s₁.heap) (TW : TopW p mg s₁.heap)
    (hr : (recsOf p).map toFn = idxA.map (fnAt P1)) (hw : wlitsOf p = lits1) (hf : freeOk p loose free1 = true) (hmg : mg (Str.ofString "law") = some (.ref fa)) (hL : s₁.heap.IsList la vs.toArray) (hI : IntsAre vs ns) (hlen : ns.length ≤ 63)
    {Q : Value → Shared → Prop} {E : Value → Shared → Prop} (hQ : ∀ h' tk, (∀ b o, s₁.heap.get? b = some o → h'.get? b = some o) → Q (.bool true) { s₁ with heap := h', toks := tk }) : wpAny (model prog w) callerA (call (.ref fa) [.ref la]) Q E s₁ := by
  have P := pg1_ok (prog := prog) (w := w) T TW hr hw hf
  have hlaw : Fk Q1 5 (Str.ofString "law") [.lst (ns.map D.int)] = .ok (.bool true) := by
    by_cases h17 : ns.length < 17
    · exact law_short 0 _ (by rw [List.length_map]; exact h17)
    · refine law_long 0 _ (by rw [List.length_map]; (first | lia | omega)) (by rw [List.length_map]; (first | lia | omega)) (fun i => ns.getD i 0) fun i hi => ?_
      rw [List.getElem?_map, List.getElem?_eq_getElem (by (first | lia | omega))]
      simp [List.getD_eq_getElem?_getD, List.getElem?_eq_getElem (show i < ns.length by (first | lia | omega))]
  obtain ⟨a, o, fd, h1, h2, h3, h4⟩ := fk_ok P 5 (Str.ofString "law") [.lst (ns.map D.int)] (by rw [hlaw]; simp)
  have ea : a = fa := by
    have h1 : mg (Str.ofString "law") = some (.ref a) := h1
    rw [hmg] at h1
    cases h1
    rfl
  subst ea
  have z := h4 callerA [] s₁ [.ref la] rfl rfl (by decide +kernel) (by decide +kernel) (fun _ _ e => e) trivial (fun b hb => by cases hb) (.cons (.lst trivial hL (ints_rep hI)) .nil)
  rw [hlaw] at z
  refine wpAny_mono z (fun v s' x => ?_) (fun e s' x => by cases x.1)
  obtain ⟨d, h', tk, e1, rfl, e3, e4⟩ := x
  cases e1
  cases e4
  exact hQ h' tk fun b o e => e3.keep b o (by intro hm; cases hm) e
end
end Mine
namespace Mine
open PySem
noncomputable def view1 : Program := { P1 with main := { P1.main with body := [1, 2, 4, 5, 7, 8, 9, 11, 12, 14, 15, 16, 17, 18, 19, 20, 21, 22, 23, 24, 25, 26, 27, 28, 29, 30, 31, 32, 33, 34, 35].filterMap fun i => P1.main.body[i]? } }
end Mine
open PySem PySem.W PyProof.Rows
set_option maxHeartbeats 8000000 in
theorem PySem.Challenge.cw_sx_r050_1o_holds : PySem.Challenge.rw_sx_r050_1o.Holds := by
  w_on
  o_law
  refine holds_open (q := Mine.view1) (loose := []) (Xt := fun s => xlAt Mine.view1 [] s && recOk (RowW.records (OpenRow.toRowW PySem.Challenge.rw_sx_r050_1o.row)) s) (XP := XL Mine.view1 []) (Yf := Hook.obs Hook.none) (Ya := Hook.val Hook.none) (YP := Hook.says Hook.none) (N := 2170) ?hl (Hook.of Hook.none) (Hook.keeps Hook.none) (fun s e => xl_of s (Bool.and_eq_true_iff.mp e).1) XL.keeps (by rfl) (by rfl) (by rfl) (fun s e => recFacts_of (Bool.and_eq_true_iff.mp e).2) (by rfl) (by first | assumption | decide +kernel) (by decide +kernel) ⟨rfl, rfl, rfl, rfl, rfl, by decide +kernel⟩ ?hw ?hc
  case hl =>
    intro w
    kernel_rfl
  case hw => w_witness2
  case hc =>
    intro w s₀ s₁ mg mb G Y fa o pm cd doc dV kV ho hd hcd hD hmg hg args vals as hpre hlay hrd hwl hlo
    refine Ground.open G ?_
    intro T B D TE TW
    clear hd hcd hD
    wrow_args hpre hlay hrd hwl hlo
    with_reducible rename IntsAre _ _ => hI
    with_reducible rename Heap.IsList _ _ _ => hL
    refine Mine.tie1 T TW (by kernel_rfl) (by kernel_rfl) (by decide +kernel) hmg hL hI (by (first | lia | omega)) fun h' tk hk => ?_
    refine ⟨.inl ⟨_, .bool true, [], rfl, raisesW_false (by wrow_none_raised), .bool true, ?_, fun _ => ⟨List.nodup_nil, by simp⟩⟩, .of_keep hk, rfl, .of_eq hg⟩
    wrow_post
